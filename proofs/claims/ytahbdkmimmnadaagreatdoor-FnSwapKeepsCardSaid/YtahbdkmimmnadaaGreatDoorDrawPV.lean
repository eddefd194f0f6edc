/-
  Systems and a property, drawn.
-/
import Derived.Test.YtahbdkmimmnadaaGreatDoorDrawY
set_option linter.unusedSimpArgs false
set_option linter.unusedVariables false
set_option maxRecDepth 8000
set_option maxHeartbeats 4000000
namespace Go.Proofs.YtahbdkmimmnadaaGreatDoor
namespace Ev
theorem OT(c0:List UInt8)(hc0:c0.length<=4294967296):∃(P:List Sys) (b:Aut),P.length<=4/\SysB 130000 P/\AutB 60 b.nx b.ac/\∀(R:Type) (L n:Nat) (hq:H) (k:KA R),20<=n->2^60<=L->aW env (aA env L n) hq 27 [.d (.ivs c0.length (a7 c0))] k=k (.tup [.d (.ivs P.length (sysD P)),autD b.al b.nx b.ac]) hq:=by
 have hc:=aKQ c0;generalize hcs:src c0=c at hc;obtain⟨P,al,nx,ac,q,g1,g2,g3,g4,g5,kd1⟩:=aLV hc 0 om om;refine⟨P,⟨al,nx,ac⟩,g1,fun s hs=>Bk (g2 s hs) om,g3,fun R L n hq k hn hL=>cS rfl ?_ rfl (.inr rfl)⟩;have kd_a:=fun {R:Type} {hq:H} {k:KA R} {i:Nat} {L n:Nat}=> @aHF L n _ _ _ _ _ _ _ rfl rfl kd1 R hq k i;clear kd1;unfold autD at kd_a|-;clear g2 g3;obtain _|n:=n;omega
 simp-implicitDefEqProofs (maxSteps:=9^7) (disch:=try exact Dz) only[↓DN,↓kAsg,↓kRet,UP,simprocAttr,↓aJq,hcs,↓kd_a,JI,uZ,Tryz.f27]
end Ev
end Go.Proofs.YtahbdkmimmnadaaGreatDoor
