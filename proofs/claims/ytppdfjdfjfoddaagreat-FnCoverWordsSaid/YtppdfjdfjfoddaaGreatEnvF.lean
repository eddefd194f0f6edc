/-
  Each function's code as an equation. Written by a program.
-/
import Derived.Test.YtppdfjdfjfoddaaGreatEnv
set_option maxRecDepth 100000
namespace Go.Proofs.YtppdfjdfjfoddaaGreat
namespace Ev
section
variable {R:Type} {call:a7} {L nf n:Nat} {thaw:List Nat} {live m:List Bool} {s args:List A} {h:H} {k:Exit → List A → H → Option R}
noncomputable def vV:SC:=bJ Tryz.f3
noncomputable def qI:Nat → Code:=lpOf Tryz.f3
theorem ML:aP (aZ Tryz.f3) = true:=by kernel_rfl
theorem CO:aA env L (n + 1) 3 args h = aM env (aA env L n) L h.length [] (Z2 (U4 (Z1 (U1 (Z32 (Z32 (Z16 (Z8 (Z1 ([])))))))))) qI vV (args ++ List.replicate (Tryz.f3.ntmps - args.length) (.d .undef)) h (kFin env.P h.length false [.tmp 2]) :=
 a6 (mode:=1) (by kernel_rfl) Tryz.func3 (by kernel_rfl) (by kernel_rfl) ML (by kernel_rfl) (by kernel_rfl)
noncomputable def s8:SC:=cD Tryz.f3 0
theorem t7:aO env call L nf thaw live (qI 0) m (n + 1) s h k = aM env call L nf thaw live qI s8 s h (cB env call L nf thaw live (qI 0) m n k) :=
 aQ ML (by kernel_rfl)
noncomputable def FZ:SC:=bJ Tryz.f4
noncomputable def UF:Nat → Code:=lpOf Tryz.f4
theorem UE:aP (aZ Tryz.f4) = true:=by kernel_rfl
theorem UJ:aA env L (n + 1) 4 args h = aM env (aA env L n) L h.length [] ([]) UF FZ (args ++ List.replicate (Tryz.f4.ntmps - args.length) (.d .undef)) h (kFin env.P h.length false Tryz.f4.results.toList) :=
 a6 (mode:=2) (by kernel_rfl) Tryz.func4 (by kernel_rfl) (by kernel_rfl) UE (by kernel_rfl) (by kernel_rfl)
noncomputable def D3:SC:=bJ Tryz.f5
noncomputable def qH:Nat → Code:=lpOf Tryz.f5
theorem OA:aP (aZ Tryz.f5) = true:=by kernel_rfl
theorem N5:aA env L (n + 1) 5 args h = aM env (aA env L n) L h.length [0,0,0,2] (Z1 (U2 (U1 (Z8 (U2 (Z16 (Z1 ([])))))))) qH D3 (args ++ List.replicate (Tryz.f5.ntmps - args.length) (.d .undef)) h (kFin env.P h.length true [.tmp 2]) :=
 a6 (mode:=3) (by kernel_rfl) Tryz.func5 (by kernel_rfl) (by kernel_rfl) OA (by kernel_rfl) (by kernel_rfl)
noncomputable def sI:SC:=cD Tryz.f5 0
theorem t6:aO env call L nf thaw live (qH 0) m (n + 1) s h k = aM env call L nf thaw live qH sI s h (cB env call L nf thaw live (qH 0) m n k) :=
 aQ OA (by kernel_rfl)
noncomputable def aAk:SC:=bJ Tryz.f6
noncomputable def vK:Nat → Code:=lpOf Tryz.f6
theorem WF:aP (aZ Tryz.f6) = true:=by kernel_rfl
theorem aIl:aA env L (n + 1) 6 args h = aM env (aA env L n) L h.length [] (U2 (Z2 (U2 (Z16 (Z4 ([])))))) vK aAk (args ++ List.replicate (Tryz.f6.ntmps - args.length) (.d .undef)) h (kFin env.P h.length false [.tmp 4]) :=
 a6 (mode:=1) (by kernel_rfl) Tryz.func6 (by kernel_rfl) (by kernel_rfl) WF (by kernel_rfl) (by kernel_rfl)
noncomputable def GV:SC:=cD Tryz.f6 0
theorem K9:aO env call L nf thaw live (vK 0) m (n + 1) s h k = aM env call L nf thaw live vK GV s h (cB env call L nf thaw live (vK 0) m n k) :=
 aQ WF (by kernel_rfl)
noncomputable def EC:SC:=bJ Tryz.f7
noncomputable def p8:Nat → Code:=lpOf Tryz.f7
theorem NT:aP (aZ Tryz.f7) = true:=by kernel_rfl
theorem N9:aA env L (n + 1) 7 args h = aM env (aA env L n) L h.length [] (Z2 (U4 (Z16 (Z8 (Z2 ([])))))) p8 EC (args ++ List.replicate (Tryz.f7.ntmps - args.length) (.d .undef)) h (kFin env.P h.length false [.tmp 2]) :=
 a6 (mode:=2) (by kernel_rfl) Tryz.func7 (by kernel_rfl) (by kernel_rfl) NT (by kernel_rfl) (by kernel_rfl)
noncomputable def zC:SC:=cD Tryz.f7 0
theorem DO:aO env call L nf thaw live (p8 0) m (n + 1) s h k = aM env call L nf thaw live p8 zC s h (cB env call L nf thaw live (p8 0) m n k) :=
 aQ NT (by kernel_rfl)
noncomputable def iZ:SC:=bJ Tryz.f8
noncomputable def eS:Nat → Code:=lpOf Tryz.f8
theorem uA:aP (aZ Tryz.f8) = true:=by kernel_rfl
theorem jZ:aA env L (n + 1) 8 args h = aM env (aA env L n) L h.length [] (Z1 (U2 (U1 (Z32 (Z2 (U2 (U1 (Z4 (Z2 (Z1 (U2 (U1 (Z8 (Z4 (Z2 ([])))))))))))))))) eS iZ (args ++ List.replicate (Tryz.f8.ntmps - args.length) (.d .undef)) h (kFin env.P h.length false [.tmp 2]) :=
 a6 (mode:=1) (by kernel_rfl) Tryz.func8 (by kernel_rfl) (by kernel_rfl) uA (by kernel_rfl) (by kernel_rfl)
noncomputable def lQ:SC:=cD Tryz.f8 0
theorem mO:aO env call L nf thaw live (eS 0) m (n + 1) s h k = aM env call L nf thaw live eS lQ s h (cB env call L nf thaw live (eS 0) m n k) :=
 aQ uA (by kernel_rfl)
noncomputable def lL:SC:=cD Tryz.f8 1
theorem mN:aO env call L nf thaw live (eS 1) m (n + 1) s h k = aM env call L nf thaw live eS lL s h (cB env call L nf thaw live (eS 1) m n k) :=
 aQ uA (by kernel_rfl)
noncomputable def HX:SC:=bJ Tryz.f9
noncomputable def XB:Nat → Code:=lpOf Tryz.f9
theorem XH:aP (aZ Tryz.f9) = true:=by kernel_rfl
theorem W8:aA env L (n + 1) 9 args h = aM env (aA env L n) L h.length [] ([]) XB HX (args ++ List.replicate (Tryz.f9.ntmps - args.length) (.d .undef)) h (kFin env.P h.length false Tryz.f9.results.toList) :=
 a6 (mode:=2) (by kernel_rfl) Tryz.func9 (by kernel_rfl) (by kernel_rfl) XH (by kernel_rfl) (by kernel_rfl)
noncomputable def EF:SC:=bJ Tryz.f10
noncomputable def aCh:Nat → Code:=lpOf Tryz.f10
theorem aDA:aP (aZ Tryz.f10) = true:=by kernel_rfl
theorem L4:aA env L (n + 1) 10 args h = aM env (aA env L n) L h.length [] ([]) aCh EF (args ++ List.replicate (Tryz.f10.ntmps - args.length) (.d .undef)) h (kFin env.P h.length false [.tmp 4,.tmp 5]) :=
 a6 (mode:=1) (by kernel_rfl) Tryz.func10 (by kernel_rfl) (by kernel_rfl) aDA (by kernel_rfl) (by kernel_rfl)
noncomputable def vX:SC:=bJ Tryz.f11
noncomputable def qG:Nat → Code:=lpOf Tryz.f11
theorem ME:aP (aZ Tryz.f11) = true:=by kernel_rfl
theorem B0:aA env L (n + 1) 11 args h = aM env (aA env L n) L h.length [] (Z1 (U1 (Z2 (U2 (U1 (Z8 (Z4 (Z2 (U2 (Z8 (Z4 ([])))))))))))) qG vX (args ++ List.replicate (Tryz.f11.ntmps - args.length) (.d .undef)) h (kFin env.P h.length false [.tmp 4]) :=
 a6 (mode:=1) (by kernel_rfl) Tryz.func11 (by kernel_rfl) (by kernel_rfl) ME (by kernel_rfl) (by kernel_rfl)
noncomputable def y6:SC:=cD Tryz.f11 0
theorem DH:aO env call L nf thaw live (qG 0) m (n + 1) s h k = aM env call L nf thaw live qG y6 s h (cB env call L nf thaw live (qG 0) m n k) :=
 aQ ME (by kernel_rfl)
noncomputable def v8:SC:=bJ Tryz.f12
noncomputable def aBY:Nat → Code:=lpOf Tryz.f12
theorem aCg:aP (aZ Tryz.f12) = true:=by kernel_rfl
theorem BG:aA env L (n + 1) 12 args h = aM env (aA env L n) L h.length [] ([]) aBY v8 (args ++ List.replicate (Tryz.f12.ntmps - args.length) (.d .undef)) h (kFin env.P h.length false [.tmp 4]) :=
 a6 (mode:=1) (by kernel_rfl) Tryz.func12 (by kernel_rfl) (by kernel_rfl) aCg (by kernel_rfl) (by kernel_rfl)
noncomputable def FP:SC:=bJ Tryz.f13
noncomputable def B6:Nat → Code:=lpOf Tryz.f13
theorem aCo:aP (aZ Tryz.f13) = true:=by kernel_rfl
theorem IH:aA env L (n + 1) 13 args h = aM env (aA env L n) L h.length [] (U1 (Z1 (U2 (U1 (Z16 (Z4 (Z2 (Z1 ([]))))))))) B6 FP (args ++ List.replicate (Tryz.f13.ntmps - args.length) (.d .undef)) h (kFin env.P h.length false Tryz.f13.results.toList) :=
 a6 (mode:=0) (by kernel_rfl) Tryz.func13 (by kernel_rfl) (by kernel_rfl) aCo (by kernel_rfl) (by kernel_rfl)
noncomputable def OU:SC:=cD Tryz.f13 0
theorem PB:aO env call L nf thaw live (B6 0) m (n + 1) s h k = aM env call L nf thaw live B6 OU s h (cB env call L nf thaw live (B6 0) m n k) :=
 aQ aCo (by kernel_rfl)
noncomputable def OL:SC:=bJ Tryz.f14
noncomputable def aHz:Nat → Code:=lpOf Tryz.f14
theorem aII:aP (aZ Tryz.f14) = true:=by kernel_rfl
theorem XM:aA env L (n + 1) 14 args h = aM env (aA env L n) L h.length [] ([]) aHz OL (args ++ List.replicate (Tryz.f14.ntmps - args.length) (.d .undef)) h (kFin env.P h.length true [.tmp 2]) :=
 a6 (mode:=2) (by kernel_rfl) Tryz.func14 (by kernel_rfl) (by kernel_rfl) aII (by kernel_rfl) (by kernel_rfl)
theorem xN {L n:Nat} {args:List A} {h:H}:aA env L (n + 1) 15 args h = LG 16 args h:=by
 have:env.prim 15 = some (LG 16):=by kernel_rfl
 simp only [aA,this]
noncomputable def BH:SC:=bJ Tryz.f16
noncomputable def SD:Nat → Code:=lpOf Tryz.f16
theorem SV:aP (aZ Tryz.f16) = true:=by kernel_rfl
theorem aGV:aA env L (n + 1) 16 args h = aM env (aA env L n) L h.length [] ([]) SD BH (args ++ List.replicate (Tryz.f16.ntmps - args.length) (.d .undef)) h (kFin env.P h.length false [.tmp 4]) :=
 a6 (mode:=1) (by kernel_rfl) Tryz.func16 (by kernel_rfl) (by kernel_rfl) SV (by kernel_rfl) (by kernel_rfl)
noncomputable def iX:SC:=bJ Tryz.f17
noncomputable def m2:Nat → Code:=lpOf Tryz.f17
theorem C6:aP (aZ Tryz.f17) = true:=by kernel_rfl
theorem jX:aA env L (n + 1) 17 args h = aM env (aA env L n) L h.length [] (Z1 (U4 (Z32 (Z4 (Z2 (Z1 ([]))))))) m2 iX (args ++ List.replicate (Tryz.f17.ntmps - args.length) (.d .undef)) h (kFin env.P h.length false [.tmp 2]) :=
 a6 (mode:=1) (by kernel_rfl) Tryz.func17 (by kernel_rfl) (by kernel_rfl) C6 (by kernel_rfl) (by kernel_rfl)
noncomputable def oK:SC:=cD Tryz.f17 0
theorem pP:aO env call L nf thaw live (m2 0) m (n + 1) s h k = aM env call L nf thaw live m2 oK s h (cB env call L nf thaw live (m2 0) m n k) :=
 aQ C6 (by kernel_rfl)
noncomputable def aCw:SC:=bJ Tryz.f18
noncomputable def nF:Nat → Code:=lpOf Tryz.f18
theorem OI:aP (aZ Tryz.f18) = true:=by kernel_rfl
theorem aJ4:aA env L (n + 1) 18 args h = aM env (aA env L n) L h.length [] (Z1 (U4 (U2 (U1 (Z32 (Z16 (Z8 (Z4 (Z1 ([])))))))))) nF aCw (args ++ List.replicate (Tryz.f18.ntmps - args.length) (.d .undef)) h (kFin env.P h.length false Tryz.f18.results.toList) :=
 a6 (mode:=2) (by kernel_rfl) Tryz.func18 (by kernel_rfl) (by kernel_rfl) OI (by kernel_rfl) (by kernel_rfl)
noncomputable def CS:SC:=cD Tryz.f18 0
theorem BY:aO env call L nf thaw live (nF 0) m (n + 1) s h k = aM env call L nf thaw live nF CS s h (cB env call L nf thaw live (nF 0) m n k) :=
 aQ OI (by kernel_rfl)
noncomputable def JV:SC:=cD Tryz.f18 1
theorem MC:aO env call L nf thaw live (nF 1) m (n + 1) s h k = aM env call L nf thaw live nF JV s h (cB env call L nf thaw live (nF 1) m n k) :=
 aQ OI (by kernel_rfl)
noncomputable def vY:SC:=bJ Tryz.f19
noncomputable def aDC:Nat → Code:=lpOf Tryz.f19
theorem aBX:aP (aZ Tryz.f19) = true:=by kernel_rfl
theorem BF:aA env L (n + 1) 19 args h = aM env (aA env L n) L h.length [] ([]) aDC vY (args ++ List.replicate (Tryz.f19.ntmps - args.length) (.d .undef)) h (kFin env.P h.length false [.tmp 4,.tmp 5]) :=
 a6 (mode:=1) (by kernel_rfl) Tryz.func19 (by kernel_rfl) (by kernel_rfl) aBX (by kernel_rfl) (by kernel_rfl)
noncomputable def PA:SC:=bJ Tryz.f20
noncomputable def aC8:Nat → Code:=lpOf Tryz.f20
theorem aDF:aP (aZ Tryz.f20) = true:=by kernel_rfl
theorem aCD:aA env L (n + 1) 20 args h = aM env (aA env L n) L h.length [] ([]) aC8 PA (args ++ List.replicate (Tryz.f20.ntmps - args.length) (.d .undef)) h (kFin env.P h.length false [.tmp 2]) :=
 a6 (mode:=1) (by kernel_rfl) Tryz.func20 (by kernel_rfl) (by kernel_rfl) aDF (by kernel_rfl) (by kernel_rfl)
noncomputable def SZ:SC:=bJ Tryz.f21
noncomputable def oX:Nat → Code:=lpOf Tryz.f21
theorem QR:aP (aZ Tryz.f21) = true:=by kernel_rfl
theorem aEf:aA env L (n + 1) 21 args h = aM env (aA env L n) L h.length [0,0,0,2] (U1 (Z1 (U2 (Z1 (U1 (Z8 (Z2 (Z1 ([]))))))))) oX SZ (args ++ List.replicate (Tryz.f21.ntmps - args.length) (.d .undef)) h (kFin env.P h.length false [.tmp 2]) :=
 a6 (mode:=2) (by kernel_rfl) Tryz.func21 (by kernel_rfl) (by kernel_rfl) QR (by kernel_rfl) (by kernel_rfl)
noncomputable def uI:SC:=cD Tryz.f21 0
theorem uX:aO env call L nf thaw live (oX 0) m (n + 1) s h k = aM env call L nf thaw live oX uI s h (cB env call L nf thaw live (oX 0) m n k) :=
 aQ QR (by kernel_rfl)
noncomputable def aI6:SC:=bJ Tryz.f22
noncomputable def FN:Nat → Code:=lpOf Tryz.f22
theorem aFo:aP (aZ Tryz.f22) = true:=by kernel_rfl
theorem aOG:aA env L (n + 1) 22 args h = aM env (aA env L n) L h.length [] (Z1 (U2 (Z4 (U1 (Z16 (Z2 (Z1 (U2 (U1 (Z8 (Z4 (Z2 (Z1 ([])))))))))))))) FN aI6 (args ++ List.replicate (Tryz.f22.ntmps - args.length) (.d .undef)) h (kFin env.P h.length false Tryz.f22.results.toList) :=
 a6 (mode:=2) (by kernel_rfl) Tryz.func22 (by kernel_rfl) (by kernel_rfl) aFo (by kernel_rfl) (by kernel_rfl)
noncomputable def IL:SC:=cD Tryz.f22 0
theorem G6:aO env call L nf thaw live (FN 0) m (n + 1) s h k = aM env call L nf thaw live FN IL s h (cB env call L nf thaw live (FN 0) m n k) :=
 aQ aFo (by kernel_rfl)
noncomputable def SU:SC:=bJ Tryz.f23
noncomputable def aEA:Nat → Code:=lpOf Tryz.f23
theorem aEC:aP (aZ Tryz.f23) = true:=by kernel_rfl
theorem aEe:aA env L (n + 1) 23 args h = aM env (aA env L n) L h.length [] ([]) aEA SU (args ++ List.replicate (Tryz.f23.ntmps - args.length) (.d .undef)) h (kFin env.P h.length false [.tmp 4,.tmp 5]) :=
 a6 (mode:=1) (by kernel_rfl) Tryz.func23 (by kernel_rfl) (by kernel_rfl) aEC (by kernel_rfl) (by kernel_rfl)
noncomputable def xL:SC:=bJ Tryz.f24
noncomputable def W4:Nat → Code:=lpOf Tryz.f24
theorem V6:aP (aZ Tryz.f24) = true:=by kernel_rfl
theorem FG:aA env L (n + 1) 24 args h = aM env (aA env L n) L h.length [] ([]) W4 xL (args ++ List.replicate (Tryz.f24.ntmps - args.length) (.d .undef)) h (kFin env.P h.length false [.tmp 3]) :=
 a6 (mode:=0) (by kernel_rfl) Tryz.func24 (by kernel_rfl) (by kernel_rfl) V6 (by kernel_rfl) (by kernel_rfl)
noncomputable def rF:SC:=bJ Tryz.f25
noncomputable def pX:Nat → Code:=lpOf Tryz.f25
theorem NU:aP (aZ Tryz.f25) = true:=by kernel_rfl
theorem uL:aA env L (n + 1) 25 args h = aM env (aA env L n) L h.length [] (U2 (Z2 (U1 (Z8 (Z2 (U2 (Z8 (Z1 ([]))))))))) pX rF (args ++ List.replicate (Tryz.f25.ntmps - args.length) (.d .undef)) h (kFin env.P h.length false [.tmp 4]) :=
 a6 (mode:=1) (by kernel_rfl) Tryz.func25 (by kernel_rfl) (by kernel_rfl) NU (by kernel_rfl) (by kernel_rfl)
noncomputable def sO:SC:=cD Tryz.f25 0
theorem tV:aO env call L nf thaw live (pX 0) m (n + 1) s h k = aM env call L nf thaw live pX sO s h (cB env call L nf thaw live (pX 0) m n k) :=
 aQ NU (by kernel_rfl)
noncomputable def ZT:SC:=bJ Tryz.f26
noncomputable def gI:Nat → Code:=lpOf Tryz.f26
theorem B9:aP (aZ Tryz.f26) = true:=by kernel_rfl
theorem aJd:aA env L (n + 1) 26 args h = aM env (aA env L n) L h.length [] (Z2 (U4 (U1 (Z8 (Z2 (Z1 (U2 (U1 (Z4 (U1 (Z8 (Z1 (U2 (U1 (Z16 ([])))))))))))))))) gI ZT (args ++ List.replicate (Tryz.f26.ntmps - args.length) (.d .undef)) h (kFin env.P h.length false [.tmp 2]) :=
 a6 (mode:=2) (by kernel_rfl) Tryz.func26 (by kernel_rfl) (by kernel_rfl) B9 (by kernel_rfl) (by kernel_rfl)
noncomputable def GM:SC:=cD Tryz.f26 0
theorem J0:aO env call L nf thaw live (gI 0) m (n + 1) s h k = aM env call L nf thaw live gI GM s h (cB env call L nf thaw live (gI 0) m n k) :=
 aQ B9 (by kernel_rfl)
noncomputable def GX:SC:=cD Tryz.f26 1
theorem KR:aO env call L nf thaw live (gI 1) m (n + 1) s h k = aM env call L nf thaw live gI GX s h (cB env call L nf thaw live (gI 1) m n k) :=
 aQ B9 (by kernel_rfl)
noncomputable def GL:SC:=cD Tryz.f26 2
theorem JK:aO env call L nf thaw live (gI 2) m (n + 1) s h k = aM env call L nf thaw live gI GL s h (cB env call L nf thaw live (gI 2) m n k) :=
 aQ B9 (by kernel_rfl)
noncomputable def XP:SC:=bJ Tryz.f27
noncomputable def aG0:Nat → Code:=lpOf Tryz.f27
theorem aG5:aP (aZ Tryz.f27) = true:=by kernel_rfl
theorem aGM:aA env L (n + 1) 27 args h = aM env (aA env L n) L h.length [] ([]) aG0 XP (args ++ List.replicate (Tryz.f27.ntmps - args.length) (.d .undef)) h (kFin env.P h.length false [.tmp 4]) :=
 a6 (mode:=1) (by kernel_rfl) Tryz.func27 (by kernel_rfl) (by kernel_rfl) aG5 (by kernel_rfl) (by kernel_rfl)
noncomputable def SK:SC:=bJ Tryz.f28
noncomputable def aEF:Nat → Code:=lpOf Tryz.f28
theorem aEi:aP (aZ Tryz.f28) = true:=by kernel_rfl
theorem aEB:aA env L (n + 1) 28 args h = aM env (aA env L n) L h.length [] ([]) aEF SK (args ++ List.replicate (Tryz.f28.ntmps - args.length) (.d .undef)) h (kFin env.P h.length false [.tmp 2]) :=
 a6 (mode:=1) (by kernel_rfl) Tryz.func28 (by kernel_rfl) (by kernel_rfl) aEi (by kernel_rfl) (by kernel_rfl)
noncomputable def SA:SC:=bJ Tryz.f29
noncomputable def aJ1:Nat → Code:=lpOf Tryz.f29
theorem aJX:aP (aZ Tryz.f29) = true:=by kernel_rfl
theorem aAA:aA env L (n + 1) 29 args h = aM env (aA env L n) L h.length [] ([]) aJ1 SA (args ++ List.replicate (Tryz.f29.ntmps - args.length) (.d .undef)) h (kFin env.P h.length false Tryz.f29.results.toList) :=
 a6 (mode:=0) (by kernel_rfl) Tryz.func29 (by kernel_rfl) (by kernel_rfl) aJX (by kernel_rfl) (by kernel_rfl)
noncomputable def rX:SC:=bJ Tryz.f30
noncomputable def aB3:Nat → Code:=lpOf Tryz.f30
theorem aCp:aP (aZ Tryz.f30) = true:=by kernel_rfl
theorem uM:aA env L (n + 1) 30 args h = aM env (aA env L n) L h.length [] ([]) aB3 rX (args ++ List.replicate (Tryz.f30.ntmps - args.length) (.d .undef)) h (kFin env.P h.length false [.tmp 4]) :=
 a6 (mode:=0) (by kernel_rfl) Tryz.func30 (by kernel_rfl) (by kernel_rfl) aCp (by kernel_rfl) (by kernel_rfl)
noncomputable def j5:SC:=bJ Tryz.f31
noncomputable def aG3:Nat → Code:=lpOf Tryz.f31
theorem aGO:aP (aZ Tryz.f31) = true:=by kernel_rfl
theorem j9:aA env L (n + 1) 31 args h = aM env (aA env L n) L h.length [0,0,0,0,0,0,0,0,0,0,0,0,0,0,0,0,0,0,0,0,0,0,0,0,0,0,0,0,0,0,0,0,0,0,0,0,0,0,0,0,0,0,0,0,0,0,0,0,0,0,0,0,0,0,0,0,0,0,0,0,0,0,0,0,0,0,0,0,0,0,0,0,0,0,0,0,0,0,0,0,0,0,0,0,0,0,0,0,0,0,0,0,0,1002] ([]) aG3 j5 (args ++ List.replicate (Tryz.f31.ntmps - args.length) (.d .undef)) h (kFin env.P h.length false Tryz.f31.results.toList) :=
 a6 (mode:=0) (by kernel_rfl) Tryz.func31 (by kernel_rfl) (by kernel_rfl) aGO (by kernel_rfl) (by kernel_rfl)
noncomputable def aFB:SC:=bJ Tryz.f32
noncomputable def wL:Nat → Code:=lpOf Tryz.f32
theorem aDw:aP (aZ Tryz.f32) = true:=by kernel_rfl
theorem aLB:aA env L (n + 1) 32 args h = aM env (aA env L n) L h.length [] (U1 (Z1 (U2 (U1 (Z16 (Z8 (Z4 (Z2 (Z1 ([])))))))))) wL aFB (args ++ List.replicate (Tryz.f32.ntmps - args.length) (.d .undef)) h (kFin env.P h.length false Tryz.f32.results.toList) :=
 a6 (mode:=0) (by kernel_rfl) Tryz.func32 (by kernel_rfl) (by kernel_rfl) aDw (by kernel_rfl) (by kernel_rfl)
noncomputable def E0:SC:=cD Tryz.f32 0
theorem D8:aO env call L nf thaw live (wL 0) m (n + 1) s h k = aM env call L nf thaw live wL E0 s h (cB env call L nf thaw live (wL 0) m n k) :=
 aQ aDw (by kernel_rfl)
noncomputable def nH:SC:=bJ Tryz.f33
noncomputable def vG:Nat → Code:=lpOf Tryz.f33
theorem VW:aP (aZ Tryz.f33) = true:=by kernel_rfl
theorem nM:aA env L (n + 1) 33 args h = aM env (aA env L n) L h.length [0,0,0,0,0,0,0,0,0,0,0,0,0,0,0,0,0,0,0,0,0,0,0,0,0,0,0,0,0,0,0,0,0,0,0,0,0,0,0,0,0,0,0,0,0,0,0,0,0,0,0,0,0,0,0,0,0,0,0,0,0,0,0,0,0,0,0,0,0,0,0,0,0,0,0,0,0,0,0,0,0,0,0,1002,0,0,0,0,0,0,0,0,0,0,0,0,0,0,0,0,0,0,0,0,0,1002] (Z4 (U2 (U1 (Z32 (Z32 (Z32 (Z8 (Z2 (Z1 ([])))))))))) vG nH (args ++ List.replicate (Tryz.f33.ntmps - args.length) (.d .undef)) h (kFin env.P h.length false Tryz.f33.results.toList) :=
 a6 (mode:=0) (by kernel_rfl) Tryz.func33 (by kernel_rfl) (by kernel_rfl) VW (by kernel_rfl) (by kernel_rfl)
noncomputable def G0:SC:=cD Tryz.f33 0
theorem K7:aO env call L nf thaw live (vG 0) m (n + 1) s h k = aM env call L nf thaw live vG G0 s h (cB env call L nf thaw live (vG 0) m n k) :=
 aQ VW (by kernel_rfl)
noncomputable def rS:SC:=bJ Tryz.f36
noncomputable def i8:Nat → Code:=lpOf Tryz.f36
theorem yL:aP (aZ Tryz.f36) = true:=by kernel_rfl
theorem SI:aA env L (n + 1) 36 args h = aM env (aA env L n) L h.length [] (Z2 (U2 (Z2 (U2 (U1 (Z8 (Z1 ([])))))))) i8 rS (args ++ List.replicate (Tryz.f36.ntmps - args.length) (.d .undef)) h (kFin env.P h.length false [.tmp 2]) :=
 a6 (mode:=1) (by kernel_rfl) Tryz.func36 (by kernel_rfl) (by kernel_rfl) yL (by kernel_rfl) (by kernel_rfl)
noncomputable def kI:SC:=cD Tryz.f36 0
theorem xM:aO env call L nf thaw live (i8 0) m (n + 1) s h k = aM env call L nf thaw live i8 kI s h (cB env call L nf thaw live (i8 0) m n k) :=
 aQ yL (by kernel_rfl)
noncomputable def iD:SC:=bJ Tryz.f37
noncomputable def F6:Nat → Code:=lpOf Tryz.f37
theorem FH:aP (aZ Tryz.f37) = true:=by kernel_rfl
theorem vH:aA env L (n + 1) 37 args h = aM env (aA env L n) L h.length [] ([]) F6 iD (args ++ List.replicate (Tryz.f37.ntmps - args.length) (.d .undef)) h (kFin env.P h.length false [.tmp 4]) :=
 a6 (mode:=1) (by kernel_rfl) Tryz.func37 (by kernel_rfl) (by kernel_rfl) FH (by kernel_rfl) (by kernel_rfl)
noncomputable def fI:SC:=bJ Tryz.f38
noncomputable def AN:Nat → Code:=lpOf Tryz.f38
theorem zN:aP (aZ Tryz.f38) = true:=by kernel_rfl
theorem r5:aA env L (n + 1) 38 args h = aM env (aA env L n) L h.length [] ([]) AN fI (args ++ List.replicate (Tryz.f38.ntmps - args.length) (.d .undef)) h (kFin env.P h.length false [.tmp 4]) :=
 a6 (mode:=1) (by kernel_rfl) Tryz.func38 (by kernel_rfl) (by kernel_rfl) zN (by kernel_rfl) (by kernel_rfl)
noncomputable def PR:SC:=bJ Tryz.f39
noncomputable def aDQ:Nat → Code:=lpOf Tryz.f39
theorem aC1:aP (aZ Tryz.f39) = true:=by kernel_rfl
theorem aCT:aA env L (n + 1) 39 args h = aM env (aA env L n) L h.length [] ([]) aDQ PR (args ++ List.replicate (Tryz.f39.ntmps - args.length) (.d .undef)) h (kFin env.P h.length false [.tmp 2]) :=
 a6 (mode:=1) (by kernel_rfl) Tryz.func39 (by kernel_rfl) (by kernel_rfl) aC1 (by kernel_rfl) (by kernel_rfl)
noncomputable def MJ:SC:=bJ Tryz.f40
noncomputable def BC:Nat → Code:=lpOf Tryz.f40
theorem aCC:aP (aZ Tryz.f40) = true:=by kernel_rfl
theorem RD:aA env L (n + 1) 40 args h = aM env (aA env L n) L h.length [] (U1 (Z1 (U1 (Z2 (Z1 (U2 (Z16 (Z4 (Z2 (Z1 ([]))))))))))) BC MJ (args ++ List.replicate (Tryz.f40.ntmps - args.length) (.d .undef)) h (kFin env.P h.length false [.tmp 6]) :=
 a6 (mode:=1) (by kernel_rfl) Tryz.func40 (by kernel_rfl) (by kernel_rfl) aCC (by kernel_rfl) (by kernel_rfl)
noncomputable def x4:SC:=cD Tryz.f40 0
theorem wC:aO env call L nf thaw live (BC 0) m (n + 1) s h k = aM env call L nf thaw live BC x4 s h (cB env call L nf thaw live (BC 0) m n k) :=
 aQ aCC (by kernel_rfl)
noncomputable def TA:SC:=bJ Tryz.f41
noncomputable def r9:Nat → Code:=lpOf Tryz.f41
theorem QL:aP (aZ Tryz.f41) = true:=by kernel_rfl
theorem aEc:aA env L (n + 1) 41 args h = aM env (aA env L n) L h.length [] (U1 (Z1 (U2 (U1 (Z8 (Z4 (Z1 ([])))))))) r9 TA (args ++ List.replicate (Tryz.f41.ntmps - args.length) (.d .undef)) h (kFin env.P h.length false [.tmp 2]) :=
 a6 (mode:=2) (by kernel_rfl) Tryz.func41 (by kernel_rfl) (by kernel_rfl) QL (by kernel_rfl) (by kernel_rfl)
noncomputable def uB:SC:=cD Tryz.f41 0
theorem uR:aO env call L nf thaw live (r9 0) m (n + 1) s h k = aM env call L nf thaw live r9 uB s h (cB env call L nf thaw live (r9 0) m n k) :=
 aQ QL (by kernel_rfl)
noncomputable def ZL:SC:=bJ Tryz.f42
noncomputable def j3:Nat → Code:=lpOf Tryz.f42
theorem LQ:aP (aZ Tryz.f42) = true:=by kernel_rfl
theorem aIN:aA env L (n + 1) 42 args h = aM env (aA env L n) L h.length [] (Z1 (U4 (U2 (Z32 (Z4 ([])))))) j3 ZL (args ++ List.replicate (Tryz.f42.ntmps - args.length) (.d .undef)) h (kFin env.P h.length false [.tmp 2]) :=
 a6 (mode:=2) (by kernel_rfl) Tryz.func42 (by kernel_rfl) (by kernel_rfl) LQ (by kernel_rfl) (by kernel_rfl)
noncomputable def G4:SC:=cD Tryz.f42 0
theorem LO:aO env call L nf thaw live (j3 0) m (n + 1) s h k = aM env call L nf thaw live j3 G4 s h (cB env call L nf thaw live (j3 0) m n k) :=
 aQ LQ (by kernel_rfl)
noncomputable def yM:SC:=cD Tryz.f42 1
theorem yV:aO env call L nf thaw live (j3 1) m (n + 1) s h k = aM env call L nf thaw live j3 yM s h (cB env call L nf thaw live (j3 1) m n k) :=
 aQ LQ (by kernel_rfl)
noncomputable def aAq:SC:=bJ Tryz.f43
noncomputable def vA:Nat → Code:=lpOf Tryz.f43
theorem X0:aP (aZ Tryz.f43) = true:=by kernel_rfl
theorem aID:aA env L (n + 1) 43 args h = aM env (aA env L n) L h.length [] (U2 (Z2 (U2 (Z8 (Z1 ([])))))) vA aAq (args ++ List.replicate (Tryz.f43.ntmps - args.length) (.d .undef)) h (kFin env.P h.length false [.tmp 4]) :=
 a6 (mode:=1) (by kernel_rfl) Tryz.func43 (by kernel_rfl) (by kernel_rfl) X0 (by kernel_rfl) (by kernel_rfl)
noncomputable def GW:SC:=cD Tryz.f43 0
theorem LI:aO env call L nf thaw live (vA 0) m (n + 1) s h k = aM env call L nf thaw live vA GW s h (cB env call L nf thaw live (vA 0) m n k) :=
 aQ X0 (by kernel_rfl)
noncomputable def EU:SC:=bJ Tryz.f44
noncomputable def aJi:Nat → Code:=lpOf Tryz.f44
theorem aI9:aP (aZ Tryz.f44) = true:=by kernel_rfl
theorem J2:aA env L (n + 1) 44 args h = aM env (aA env L n) L h.length [] ([]) aJi EU (args ++ List.replicate (Tryz.f44.ntmps - args.length) (.d .undef)) h (kFin env.P h.length false [.tmp 4]) :=
 a6 (mode:=1) (by kernel_rfl) Tryz.func44 (by kernel_rfl) (by kernel_rfl) aI9 (by kernel_rfl) (by kernel_rfl)
noncomputable def EX:SC:=bJ Tryz.f45
noncomputable def dP:Nat → Code:=lpOf Tryz.f45
theorem u7:aP (aZ Tryz.f45) = true:=by kernel_rfl
theorem KK:aA env L (n + 1) 45 args h = aM env (aA env L n) L h.length [] (Z1 (U8 (U4 (U2 (U1 (Z32 (Z32 (Z16 (Z8 (Z2 (Z1 ([])))))))))))) dP EX (args ++ List.replicate (Tryz.f45.ntmps - args.length) (.d .undef)) h (kFin env.P h.length false [.tmp 2,.tmp 3]) :=
 a6 (mode:=1) (by kernel_rfl) Tryz.func45 (by kernel_rfl) (by kernel_rfl) u7 (by kernel_rfl) (by kernel_rfl)
noncomputable def GI:SC:=cD Tryz.f45 0
theorem J8:aO env call L nf thaw live (dP 0) m (n + 1) s h k = aM env call L nf thaw live dP GI s h (cB env call L nf thaw live (dP 0) m n k) :=
 aQ u7 (by kernel_rfl)
noncomputable def yT:SC:=cD Tryz.f45 1
theorem zG:aO env call L nf thaw live (dP 1) m (n + 1) s h k = aM env call L nf thaw live dP yT s h (cB env call L nf thaw live (dP 1) m n k) :=
 aQ u7 (by kernel_rfl)
noncomputable def tD:SC:=cD Tryz.f45 2
theorem sJ:aO env call L nf thaw live (dP 2) m (n + 1) s h k = aM env call L nf thaw live dP tD s h (cB env call L nf thaw live (dP 2) m n k) :=
 aQ u7 (by kernel_rfl)
noncomputable def tC:SC:=cD Tryz.f45 3
theorem sY:aO env call L nf thaw live (dP 3) m (n + 1) s h k = aM env call L nf thaw live dP tC s h (cB env call L nf thaw live (dP 3) m n k) :=
 aQ u7 (by kernel_rfl)
noncomputable def aK3:SC:=bJ Tryz.f46
noncomputable def aQo:Nat → Code:=lpOf Tryz.f46
theorem aPF:aP (aZ Tryz.f46) = true:=by kernel_rfl
theorem aPK:aA env L (n + 1) 46 args h = aM env (aA env L n) L h.length [] ([]) aQo aK3 (args ++ List.replicate (Tryz.f46.ntmps - args.length) (.d .undef)) h (kFin env.P h.length false [.tmp 4]) :=
 a6 (mode:=1) (by kernel_rfl) Tryz.func46 (by kernel_rfl) (by kernel_rfl) aPF (by kernel_rfl) (by kernel_rfl)
noncomputable def JU:SC:=bJ Tryz.f47
noncomputable def eW:Nat → Code:=lpOf Tryz.f47
theorem xG:aP (aZ Tryz.f47) = true:=by kernel_rfl
theorem ZC:aA env L (n + 1) 47 args h = aM env (aA env L n) L h.length [0,0,0,0,0,0,0,0,0,0,0,0,0,2,0,2] (Z1 (U2 (U1 (Z4 (U8 (Z16 (U2 (U1 (Z32 (Z8 (Z2 ([])))))))))))) eW JU (args ++ List.replicate (Tryz.f47.ntmps - args.length) (.d .undef)) h (kFin env.P h.length false [.tmp 8,.tmp 9,.tmp 10]) :=
 a6 (mode:=2) (by kernel_rfl) Tryz.func47 (by kernel_rfl) (by kernel_rfl) xG (by kernel_rfl) (by kernel_rfl)
noncomputable def u3:SC:=cD Tryz.f47 0
theorem AB:aO env call L nf thaw live (eW 0) m (n + 1) s h k = aM env call L nf thaw live eW u3 s h (cB env call L nf thaw live (eW 0) m n k) :=
 aQ xG (by kernel_rfl)
noncomputable def qA:SC:=cD Tryz.f47 1
theorem rP:aO env call L nf thaw live (eW 1) m (n + 1) s h k = aM env call L nf thaw live eW qA s h (cB env call L nf thaw live (eW 1) m n k) :=
 aQ xG (by kernel_rfl)
noncomputable def ZS:SC:=bJ Tryz.f48
noncomputable def aIf:Nat → Code:=lpOf Tryz.f48
theorem aHN:aP (aZ Tryz.f48) = true:=by kernel_rfl
theorem aJf:aA env L (n + 1) 48 args h = aM env (aA env L n) L h.length [] ([]) aIf ZS (args ++ List.replicate (Tryz.f48.ntmps - args.length) (.d .undef)) h (kFin env.P h.length false [.tmp 5]) :=
 a6 (mode:=0) (by kernel_rfl) Tryz.func48 (by kernel_rfl) (by kernel_rfl) aHN (by kernel_rfl) (by kernel_rfl)
noncomputable def yU:SC:=bJ Tryz.f49
noncomputable def eN:Nat → Code:=lpOf Tryz.f49
theorem wA:aP (aZ Tryz.f49) = true:=by kernel_rfl
theorem EB:aA env L (n + 1) 49 args h = aM env (aA env L n) L h.length [0,0,0,0,0,0,0,0,0,0,0,0,0,0,0,0,0,0,2] (Z2 (U2 (Z4 (Z2 (U2 (Z1 (U2 (U1 (Z1 (U2 (Z8 (Z4 (Z2 (U2 (U1 (Z4 (Z2 (Z1 (U2 (U1 (Z16 (Z1 ([]))))))))))))))))))))))) eN yU (args ++ List.replicate (Tryz.f49.ntmps - args.length) (.d .undef)) h (kFin env.P h.length false [.tmp 10,.tmp 11]) :=
 a6 (mode:=1) (by kernel_rfl) Tryz.func49 (by kernel_rfl) (by kernel_rfl) wA (by kernel_rfl) (by kernel_rfl)
noncomputable def qE:SC:=cD Tryz.f49 0
theorem qF:aO env call L nf thaw live (eN 0) m (n + 1) s h k = aM env call L nf thaw live eN qE s h (cB env call L nf thaw live (eN 0) m n k) :=
 aQ wA (by kernel_rfl)
noncomputable def uJ:SC:=cD Tryz.f49 1
theorem vP:aO env call L nf thaw live (eN 1) m (n + 1) s h k = aM env call L nf thaw live eN uJ s h (cB env call L nf thaw live (eN 1) m n k) :=
 aQ wA (by kernel_rfl)
noncomputable def B1:SC:=cD Tryz.f49 2
theorem FO:aO env call L nf thaw live (eN 2) m (n + 1) s h k = aM env call L nf thaw live eN B1 s h (cB env call L nf thaw live (eN 2) m n k) :=
 aQ wA (by kernel_rfl)
noncomputable def JP:SC:=bJ Tryz.f50
noncomputable def Y5:Nat → Code:=lpOf Tryz.f50
theorem Y0:aP (aZ Tryz.f50) = true:=by kernel_rfl
theorem YT:aA env L (n + 1) 50 args h = aM env (aA env L n) L h.length [] ([]) Y5 JP (args ++ List.replicate (Tryz.f50.ntmps - args.length) (.d .undef)) h (kFin env.P h.length false [.tmp 7]) :=
 a6 (mode:=0) (by kernel_rfl) Tryz.func50 (by kernel_rfl) (by kernel_rfl) Y0 (by kernel_rfl) (by kernel_rfl)
noncomputable def UR:SC:=bJ Tryz.f52
noncomputable def aHd:Nat → Code:=lpOf Tryz.f52
theorem aGY:aP (aZ Tryz.f52) = true:=by kernel_rfl
theorem aGJ:aA env L (n + 1) 52 args h = aM env (aA env L n) L h.length [] ([]) aHd UR (args ++ List.replicate (Tryz.f52.ntmps - args.length) (.d .undef)) h (kFin env.P h.length false [.tmp 4]) :=
 a6 (mode:=0) (by kernel_rfl) Tryz.func52 (by kernel_rfl) (by kernel_rfl) aGY (by kernel_rfl) (by kernel_rfl)
noncomputable def RQ:SC:=bJ Tryz.f54
noncomputable def aJz:Nat → Code:=lpOf Tryz.f54
theorem aKc:aP (aZ Tryz.f54) = true:=by kernel_rfl
theorem aAo:aA env L (n + 1) 54 args h = aM env (aA env L n) L h.length [] ([]) aJz RQ (args ++ List.replicate (Tryz.f54.ntmps - args.length) (.d .undef)) h (kFin env.P h.length false Tryz.f54.results.toList) :=
 a6 (mode:=0) (by kernel_rfl) Tryz.func54 (by kernel_rfl) (by kernel_rfl) aKc (by kernel_rfl) (by kernel_rfl)
noncomputable def S8:SC:=bJ Tryz.f55
noncomputable def aEj:Nat → Code:=lpOf Tryz.f55
theorem aEH:aP (aZ Tryz.f55) = true:=by kernel_rfl
theorem aEn:aA env L (n + 1) 55 args h = aM env (aA env L n) L h.length [] ([]) aEj S8 (args ++ List.replicate (Tryz.f55.ntmps - args.length) (.d .undef)) h (kFin env.P h.length false [.tmp 4]) :=
 a6 (mode:=0) (by kernel_rfl) Tryz.func55 (by kernel_rfl) (by kernel_rfl) aEH (by kernel_rfl) (by kernel_rfl)
noncomputable def aCy:SC:=bJ Tryz.f56
noncomputable def qR:Nat → Code:=lpOf Tryz.f56
theorem aAy:aP (aZ Tryz.f56) = true:=by kernel_rfl
theorem aJ7:aA env L (n + 1) 56 args h = aM env (aA env L n) L h.length [0,0,0,0,0,0,0,0,0,0,0,0,0,0,0,0,0,0,0,0,0,0,0,0,0,0,0,0,1002] (Z1 (U4 (Z16 (Z8 (Z2 (Z1 ([]))))))) qR aCy (args ++ List.replicate (Tryz.f56.ntmps - args.length) (.d .undef)) h (kFin env.P h.length true Tryz.f56.results.toList) :=
 a6 (mode:=2) (by kernel_rfl) Tryz.func56 (by kernel_rfl) (by kernel_rfl) aAy (by kernel_rfl) (by kernel_rfl)
noncomputable def A7:SC:=cD Tryz.f56 0
theorem AU:aO env call L nf thaw live (qR 0) m (n + 1) s h k = aM env call L nf thaw live qR A7 s h (cB env call L nf thaw live (qR 0) m n k) :=
 aQ aAy (by kernel_rfl)
noncomputable def uK:SC:=bJ Tryz.f67
noncomputable def KG:Nat → Code:=lpOf Tryz.f67
theorem KZ:aP (aZ Tryz.f67) = true:=by kernel_rfl
theorem aBj:aA env L (n + 1) 67 args h = aM env (aA env L n) L h.length [] ([]) KG uK (args ++ List.replicate (Tryz.f67.ntmps - args.length) (.d .undef)) h (kFin env.P h.length false [.tmp 2]) :=
 a6 (mode:=1) (by kernel_rfl) Tryz.func67 (by kernel_rfl) (by kernel_rfl) KZ (by kernel_rfl) (by kernel_rfl)
noncomputable def qC:SC:=bJ Tryz.f68
noncomputable def DD:Nat → Code:=lpOf Tryz.f68
theorem DG:aP (aZ Tryz.f68) = true:=by kernel_rfl
theorem UI:aA env L (n + 1) 68 args h = aM env (aA env L n) L h.length [] ([]) DD qC (args ++ List.replicate (Tryz.f68.ntmps - args.length) (.d .undef)) h (kFin env.P h.length false [.tmp 2]) :=
 a6 (mode:=1) (by kernel_rfl) Tryz.func68 (by kernel_rfl) (by kernel_rfl) DG (by kernel_rfl) (by kernel_rfl)
noncomputable def aGE:SC:=bJ Tryz.f69
noncomputable def aL9:Nat → Code:=lpOf Tryz.f69
theorem aLv:aP (aZ Tryz.f69) = true:=by kernel_rfl
theorem aLY:aA env L (n + 1) 69 args h = aM env (aA env L n) L h.length [] ([]) aL9 aGE (args ++ List.replicate (Tryz.f69.ntmps - args.length) (.d .undef)) h (kFin env.P h.length false [.tmp 4]) :=
 a6 (mode:=1) (by kernel_rfl) Tryz.func69 (by kernel_rfl) (by kernel_rfl) aLv (by kernel_rfl) (by kernel_rfl)
noncomputable def aBd:SC:=bJ Tryz.f70
noncomputable def FS:Nat → Code:=lpOf Tryz.f70
theorem aGy:aP (aZ Tryz.f70) = true:=by kernel_rfl
theorem aGc:aA env L (n + 1) 70 args h = aM env (aA env L n) L h.length [] (U2 (Z2 (U2 (Z8 (Z4 ([])))))) FS aBd (args ++ List.replicate (Tryz.f70.ntmps - args.length) (.d .undef)) h (kFin env.P h.length false [.tmp 4]) :=
 a6 (mode:=1) (by kernel_rfl) Tryz.func70 (by kernel_rfl) (by kernel_rfl) aGy (by kernel_rfl) (by kernel_rfl)
noncomputable def IV:SC:=cD Tryz.f70 0
theorem GQ:aO env call L nf thaw live (FS 0) m (n + 1) s h k = aM env call L nf thaw live FS IV s h (cB env call L nf thaw live (FS 0) m n k) :=
 aQ aGy (by kernel_rfl)
noncomputable def aAT:SC:=bJ Tryz.f71
noncomputable def lO:Nat → Code:=lpOf Tryz.f71
theorem LY:aP (aZ Tryz.f71) = true:=by kernel_rfl
theorem aHK:aA env L (n + 1) 71 args h = aM env (aA env L n) L h.length [] (Z1 (U4 (U1 (Z32 (Z2 (Z1 ([]))))))) lO aAT (args ++ List.replicate (Tryz.f71.ntmps - args.length) (.d .undef)) h (kFin env.P h.length false [.tmp 2]) :=
 a6 (mode:=2) (by kernel_rfl) Tryz.func71 (by kernel_rfl) (by kernel_rfl) LY (by kernel_rfl) (by kernel_rfl)
noncomputable def GP:SC:=cD Tryz.f71 0
theorem K4:aO env call L nf thaw live (lO 0) m (n + 1) s h k = aM env call L nf thaw live lO GP s h (cB env call L nf thaw live (lO 0) m n k) :=
 aQ LY (by kernel_rfl)
noncomputable def GO:SC:=cD Tryz.f71 1
theorem K3:aO env call L nf thaw live (lO 1) m (n + 1) s h k = aM env call L nf thaw live lO GO s h (cB env call L nf thaw live (lO 1) m n k) :=
 aQ LY (by kernel_rfl)
noncomputable def aAf:SC:=bJ Tryz.f72
noncomputable def lE:Nat → Code:=lpOf Tryz.f72
theorem JS:aP (aZ Tryz.f72) = true:=by kernel_rfl
theorem aHs:aA env L (n + 1) 72 args h = aM env (aA env L n) L h.length [] (Z1 (U2 (U1 (Z2 (U4 (U2 (U1 (Z32 (Z2 (Z1 ([]))))))))))) lE aAf (args ++ List.replicate (Tryz.f72.ntmps - args.length) (.d .undef)) h (kFin env.P h.length false [.tmp 6]) :=
 a6 (mode:=2) (by kernel_rfl) Tryz.func72 (by kernel_rfl) (by kernel_rfl) JS (by kernel_rfl) (by kernel_rfl)
noncomputable def GS:SC:=cD Tryz.f72 0
theorem JX:aO env call L nf thaw live (lE 0) m (n + 1) s h k = aM env call L nf thaw live lE GS s h (cB env call L nf thaw live (lE 0) m n k) :=
 aQ JS (by kernel_rfl)
noncomputable def GU:SC:=cD Tryz.f72 1
theorem JL:aO env call L nf thaw live (lE 1) m (n + 1) s h k = aM env call L nf thaw live lE GU s h (cB env call L nf thaw live (lE 1) m n k) :=
 aQ JS (by kernel_rfl)
noncomputable def aAC:SC:=bJ Tryz.f73
noncomputable def aHT:Nat → Code:=lpOf Tryz.f73
theorem aIK:aP (aZ Tryz.f73) = true:=by kernel_rfl
theorem aIa:aA env L (n + 1) 73 args h = aM env (aA env L n) L h.length [] (Z2 (U1 (Z2 (Z1 (U2 (Z32 (Z16 (Z8 ([]))))))))) aHT aAC (args ++ List.replicate (Tryz.f73.ntmps - args.length) (.d .undef)) h (kFin env.P h.length false [.tmp 6]) :=
 a6 (mode:=1) (by kernel_rfl) Tryz.func73 (by kernel_rfl) (by kernel_rfl) aIK (by kernel_rfl) (by kernel_rfl)
noncomputable def VB:SC:=bJ Tryz.f74
noncomputable def tJ:Nat → Code:=lpOf Tryz.f74
theorem TS:aP (aZ Tryz.f74) = true:=by kernel_rfl
theorem aGW:aA env L (n + 1) 74 args h = aM env (aA env L n) L h.length [] (U2 (Z2 (U2 (U1 (Z16 (Z8 (Z2 ([])))))))) tJ VB (args ++ List.replicate (Tryz.f74.ntmps - args.length) (.d .undef)) h (kFin env.P h.length false [.tmp 4]) :=
 a6 (mode:=2) (by kernel_rfl) Tryz.func74 (by kernel_rfl) (by kernel_rfl) TS (by kernel_rfl) (by kernel_rfl)
noncomputable def DX:SC:=cD Tryz.f74 0
theorem HV:aO env call L nf thaw live (tJ 0) m (n + 1) s h k = aM env call L nf thaw live tJ DX s h (cB env call L nf thaw live (tJ 0) m n k) :=
 aQ TS (by kernel_rfl)
noncomputable def aCn:SC:=bJ Tryz.f75
noncomputable def lD:Nat → Code:=lpOf Tryz.f75
theorem OK:aP (aZ Tryz.f75) = true:=by kernel_rfl
theorem aJt:aA env L (n + 1) 75 args h = aM env (aA env L n) L h.length [] (U2 (Z2 (U2 (U1 (Z16 (Z8 (Z4 ([])))))))) lD aCn (args ++ List.replicate (Tryz.f75.ntmps - args.length) (.d .undef)) h (kFin env.P h.length false []) :=
 a6 (mode:=0) (by kernel_rfl) Tryz.func75 (by kernel_rfl) (by kernel_rfl) OK (by kernel_rfl) (by kernel_rfl)
noncomputable def BW:SC:=cD Tryz.f75 0
theorem CU:aO env call L nf thaw live (lD 0) m (n + 1) s h k = aM env call L nf thaw live lD BW s h (cB env call L nf thaw live (lD 0) m n k) :=
 aQ OK (by kernel_rfl)
noncomputable def uU:SC:=cD Tryz.f75 1
theorem uC:aO env call L nf thaw live (lD 1) m (n + 1) s h k = aM env call L nf thaw live lD uU s h (cB env call L nf thaw live (lD 1) m n k) :=
 aQ OK (by kernel_rfl)
noncomputable def VU:SC:=bJ Tryz.f76
noncomputable def tL:Nat → Code:=lpOf Tryz.f76
theorem SJ:aP (aZ Tryz.f76) = true:=by kernel_rfl
theorem aG4:aA env L (n + 1) 76 args h = aM env (aA env L n) L h.length [] (U2 (Z2 (U2 (U1 (Z16 (Z2 ([]))))))) tL VU (args ++ List.replicate (Tryz.f76.ntmps - args.length) (.d .undef)) h (kFin env.P h.length false [.tmp 4]) :=
 a6 (mode:=1) (by kernel_rfl) Tryz.func76 (by kernel_rfl) (by kernel_rfl) SJ (by kernel_rfl) (by kernel_rfl)
noncomputable def EH:SC:=cD Tryz.f76 0
theorem HY:aO env call L nf thaw live (tL 0) m (n + 1) s h k = aM env call L nf thaw live tL EH s h (cB env call L nf thaw live (tL 0) m n k) :=
 aQ SJ (by kernel_rfl)
noncomputable def VG:SC:=bJ Tryz.f77
noncomputable def j7:Nat → Code:=lpOf Tryz.f77
theorem GK:aP (aZ Tryz.f77) = true:=by kernel_rfl
theorem aG9:aA env L (n + 1) 77 args h = aM env (aA env L n) L h.length [] (U4 (U1 (Z4 (Z1 (U4 (U1 (Z32 (Z16 (Z1 ([])))))))))) j7 VG (args ++ List.replicate (Tryz.f77.ntmps - args.length) (.d .undef)) h (kFin env.P h.length false [.tmp 10]) :=
 a6 (mode:=2) (by kernel_rfl) Tryz.func77 (by kernel_rfl) (by kernel_rfl) GK (by kernel_rfl) (by kernel_rfl)
noncomputable def DV:SC:=cD Tryz.f77 0
theorem HF:aO env call L nf thaw live (j7 0) m (n + 1) s h k = aM env call L nf thaw live j7 DV s h (cB env call L nf thaw live (j7 0) m n k) :=
 aQ GK (by kernel_rfl)
noncomputable def r8:SC:=cD Tryz.f77 1
theorem qZ:aO env call L nf thaw live (j7 1) m (n + 1) s h k = aM env call L nf thaw live j7 r8 s h (cB env call L nf thaw live (j7 1) m n k) :=
 aQ GK (by kernel_rfl)
noncomputable def aB0:SC:=bJ Tryz.f78
noncomputable def aKf:Nat → Code:=lpOf Tryz.f78
theorem aJ9:aP (aZ Tryz.f78) = true:=by kernel_rfl
theorem aJQ:aA env L (n + 1) 78 args h = aM env (aA env L n) L h.length [] ([]) aKf aB0 (args ++ List.replicate (Tryz.f78.ntmps - args.length) (.d .undef)) h (kFin env.P h.length false [.tmp 2]) :=
 a6 (mode:=1) (by kernel_rfl) Tryz.func78 (by kernel_rfl) (by kernel_rfl) aJ9 (by kernel_rfl) (by kernel_rfl)
noncomputable def sU:SC:=bJ Tryz.f79
noncomputable def lS:Nat → Code:=lpOf Tryz.f79
theorem H6:aP (aZ Tryz.f79) = true:=by kernel_rfl
theorem xD:aA env L (n + 1) 79 args h = aM env (aA env L n) L h.length [0,0,0,0,0,0,0,0,0,0,2] (U2 (Z1 (U2 (U1 (Z2 (Z1 (U2 (U1 (Z2 (U2 (U1 (Z32 (Z1 ([])))))))))))))) lS sU (args ++ List.replicate (Tryz.f79.ntmps - args.length) (.d .undef)) h (kFin env.P h.length false [.tmp 9]) :=
 a6 (mode:=0) (by kernel_rfl) Tryz.func79 (by kernel_rfl) (by kernel_rfl) H6 (by kernel_rfl) (by kernel_rfl)
noncomputable def d8:SC:=cD Tryz.f79 0
theorem dW:aO env call L nf thaw live (lS 0) m (n + 1) s h k = aM env call L nf thaw live lS d8 s h (cB env call L nf thaw live (lS 0) m n k) :=
 aQ H6 (by kernel_rfl)
noncomputable def WW:SC:=bJ Tryz.f80
noncomputable def tK:Nat → Code:=lpOf Tryz.f80
theorem SP:aP (aZ Tryz.f80) = true:=by kernel_rfl
theorem aG2:aA env L (n + 1) 80 args h = aM env (aA env L n) L h.length [0,0,0,2] (U1 (Z1 (U2 (U1 (Z16 (Z8 (Z2 (Z1 ([]))))))))) tK WW (args ++ List.replicate (Tryz.f80.ntmps - args.length) (.d .undef)) h (kFin env.P h.length false [.tmp 2]) :=
 a6 (mode:=1) (by kernel_rfl) Tryz.func80 (by kernel_rfl) (by kernel_rfl) SP (by kernel_rfl) (by kernel_rfl)
noncomputable def EO:SC:=cD Tryz.f80 0
theorem HU:aO env call L nf thaw live (tK 0) m (n + 1) s h k = aM env call L nf thaw live tK EO s h (cB env call L nf thaw live (tK 0) m n k) :=
 aQ SP (by kernel_rfl)
noncomputable def aBU:SC:=bJ Tryz.f85
noncomputable def lB:Nat → Code:=lpOf Tryz.f85
theorem ON:aP (aZ Tryz.f85) = true:=by kernel_rfl
theorem aJ0:aA env L (n + 1) 85 args h = aM env (aA env L n) L h.length [] (Z2 (U1 (Z2 (Z1 (U4 (Z32 (Z4 (Z2 (Z1 ([])))))))))) lB aBU (args ++ List.replicate (Tryz.f85.ntmps - args.length) (.d .undef)) h (kFin env.P h.length false Tryz.f85.results.toList) :=
 a6 (mode:=0) (by kernel_rfl) Tryz.func85 (by kernel_rfl) (by kernel_rfl) ON (by kernel_rfl) (by kernel_rfl)
noncomputable def L0:SC:=cD Tryz.f85 0
theorem NW:aO env call L nf thaw live (lB 0) m (n + 1) s h k = aM env call L nf thaw live lB L0 s h (cB env call L nf thaw live (lB 0) m n k) :=
 aQ ON (by kernel_rfl)
noncomputable def LK:SC:=cD Tryz.f85 1
theorem NX:aO env call L nf thaw live (lB 1) m (n + 1) s h k = aM env call L nf thaw live lB LK s h (cB env call L nf thaw live (lB 1) m n k) :=
 aQ ON (by kernel_rfl)
noncomputable def XG:SC:=bJ Tryz.f86
noncomputable def hZ:Nat → Code:=lpOf Tryz.f86
theorem G7:aP (aZ Tryz.f86) = true:=by kernel_rfl
theorem aG7:aA env L (n + 1) 86 args h = aM env (aA env L n) L h.length [0,0,0,0,0,0,0,0,0,0,0,0,0,0,0,0,0,0,0,0,0,0,0,0,0,0,0,0,0,0,0,0,0,0,0,0,0,1002] (U1 (Z1 (U1 (Z2 (Z1 (U4 (U2 (Z32 (Z4 (Z1 ([]))))))))))) hZ XG (args ++ List.replicate (Tryz.f86.ntmps - args.length) (.d .undef)) h (kFin env.P h.length true Tryz.f86.results.toList) :=
 a6 (mode:=0) (by kernel_rfl) Tryz.func86 (by kernel_rfl) (by kernel_rfl) G7 (by kernel_rfl) (by kernel_rfl)
noncomputable def wH:SC:=cD Tryz.f86 0
theorem xH:aO env call L nf thaw live (hZ 0) m (n + 1) s h k = aM env call L nf thaw live hZ wH s h (cB env call L nf thaw live (hZ 0) m n k) :=
 aQ G7 (by kernel_rfl)
noncomputable def r7:SC:=cD Tryz.f86 1
theorem rB:aO env call L nf thaw live (hZ 1) m (n + 1) s h k = aM env call L nf thaw live hZ r7 s h (cB env call L nf thaw live (hZ 1) m n k) :=
 aQ G7 (by kernel_rfl)
noncomputable def Z6:SC:=bJ Tryz.f92
noncomputable def gL:Nat → Code:=lpOf Tryz.f92
theorem CG:aP (aZ Tryz.f92) = true:=by kernel_rfl
theorem aHV:aA env L (n + 1) 92 args h = aM env (aA env L n) L h.length [] (Z1 (U4 (Z2 (Z1 (U4 (U2 (U1 (Z32 (Z8 (Z4 (Z2 (Z1 ([]))))))))))))) gL Z6 (args ++ List.replicate (Tryz.f92.ntmps - args.length) (.d .undef)) h (kFin env.P h.length false [.tmp 8]) :=
 a6 (mode:=2) (by kernel_rfl) Tryz.func92 (by kernel_rfl) (by kernel_rfl) CG (by kernel_rfl) (by kernel_rfl)
noncomputable def G3:SC:=cD Tryz.f92 0
theorem KH:aO env call L nf thaw live (gL 0) m (n + 1) s h k = aM env call L nf thaw live gL G3 s h (cB env call L nf thaw live (gL 0) m n k) :=
 aQ CG (by kernel_rfl)
noncomputable def GH:SC:=cD Tryz.f92 1
theorem J4:aO env call L nf thaw live (gL 1) m (n + 1) s h k = aM env call L nf thaw live gL GH s h (cB env call L nf thaw live (gL 1) m n k) :=
 aQ CG (by kernel_rfl)
noncomputable def GR:SC:=cD Tryz.f92 2
theorem JC:aO env call L nf thaw live (gL 2) m (n + 1) s h k = aM env call L nf thaw live gL GR s h (cB env call L nf thaw live (gL 2) m n k) :=
 aQ CG (by kernel_rfl)
noncomputable def aJa:SC:=bJ Tryz.f93
noncomputable def aMx:Nat → Code:=lpOf Tryz.f93
theorem aN2:aP (aZ Tryz.f93) = true:=by kernel_rfl
theorem aNx:aA env L (n + 1) 93 args h = aM env (aA env L n) L h.length [] ([]) aMx aJa (args ++ List.replicate (Tryz.f93.ntmps - args.length) (.d .undef)) h (kFin env.P h.length false [.tmp 6]) :=
 a6 (mode:=1) (by kernel_rfl) Tryz.func93 (by kernel_rfl) (by kernel_rfl) aN2 (by kernel_rfl) (by kernel_rfl)
noncomputable def R3:SC:=bJ Tryz.f94
noncomputable def nC:Nat → Code:=lpOf Tryz.f94
theorem OM:aP (aZ Tryz.f94) = true:=by kernel_rfl
theorem ZQ:aA env L (n + 1) 94 args h = aM env (aA env L n) L h.length [] (U2 (U1 (Z2 (Z1 (U2 (U1 (Z16 (Z8 (Z2 (Z1 ([]))))))))))) nC R3 (args ++ List.replicate (Tryz.f94.ntmps - args.length) (.d .undef)) h (kFin env.P h.length false [.tmp 6]) :=
 a6 (mode:=1) (by kernel_rfl) Tryz.func94 (by kernel_rfl) (by kernel_rfl) OM (by kernel_rfl) (by kernel_rfl)
noncomputable def BM:SC:=cD Tryz.f94 0
theorem BA:aO env call L nf thaw live (nC 0) m (n + 1) s h k = aM env call L nf thaw live nC BM s h (cB env call L nf thaw live (nC 0) m n k) :=
 aQ OM (by kernel_rfl)
noncomputable def A8:SC:=cD Tryz.f94 1
theorem AZ:aO env call L nf thaw live (nC 1) m (n + 1) s h k = aM env call L nf thaw live nC A8 s h (cB env call L nf thaw live (nC 1) m n k) :=
 aQ OM (by kernel_rfl)
noncomputable def QJ:SC:=bJ Tryz.f95
noncomputable def aDL:Nat → Code:=lpOf Tryz.f95
theorem aCQ:aP (aZ Tryz.f95) = true:=by kernel_rfl
theorem aBQ:aA env L (n + 1) 95 args h = aM env (aA env L n) L h.length [] ([]) aDL QJ (args ++ List.replicate (Tryz.f95.ntmps - args.length) (.d .undef)) h (kFin env.P h.length false [.tmp 2]) :=
 a6 (mode:=1) (by kernel_rfl) Tryz.func95 (by kernel_rfl) (by kernel_rfl) aCQ (by kernel_rfl) (by kernel_rfl)
noncomputable def tH:SC:=bJ Tryz.f96
noncomputable def eT:Nat → Code:=lpOf Tryz.f96
theorem sF:aP (aZ Tryz.f96) = true:=by kernel_rfl
theorem GE:aA env L (n + 1) 96 args h = aM env (aA env L n) L h.length [] (U1 (Z1 (U2 (Z16 (Z8 ([])))))) eT tH (args ++ List.replicate (Tryz.f96.ntmps - args.length) (.d .undef)) h (kFin env.P h.length false []) :=
 a6 (mode:=0) (by kernel_rfl) Tryz.func96 (by kernel_rfl) (by kernel_rfl) sF (by kernel_rfl) (by kernel_rfl)
noncomputable def jG:SC:=cD Tryz.f96 0
theorem kU:aO env call L nf thaw live (eT 0) m (n + 1) s h k = aM env call L nf thaw live eT jG s h (cB env call L nf thaw live (eT 0) m n k) :=
 aQ sF (by kernel_rfl)
noncomputable def S7:SC:=bJ Tryz.f101
noncomputable def aEG:Nat → Code:=lpOf Tryz.f101
theorem aED:aP (aZ Tryz.f101) = true:=by kernel_rfl
theorem aEk:aA env L (n + 1) 101 args h = aM env (aA env L n) L h.length [] (Z2 (U2 (Z4 (U4 (Z32 (Z32 (Z2 (Z1 ([]))))))))) aEG S7 (args ++ List.replicate (Tryz.f101.ntmps - args.length) (.d .undef)) h (kFin env.P h.length false [.tmp 8]) :=
 a6 (mode:=2) (by kernel_rfl) Tryz.func101 (by kernel_rfl) (by kernel_rfl) aED (by kernel_rfl) (by kernel_rfl)
noncomputable def aBv:SC:=bJ Tryz.f102
noncomputable def aNk:Nat → Code:=lpOf Tryz.f102
theorem aNM:aP (aZ Tryz.f102) = true:=by kernel_rfl
theorem aGB:aA env L (n + 1) 102 args h = aM env (aA env L n) L h.length [] ([]) aNk aBv (args ++ List.replicate (Tryz.f102.ntmps - args.length) (.d .undef)) h (kFin env.P h.length false [.tmp 6]) :=
 a6 (mode:=1) (by kernel_rfl) Tryz.func102 (by kernel_rfl) (by kernel_rfl) aNM (by kernel_rfl) (by kernel_rfl)
noncomputable def ZY:SC:=bJ Tryz.f103
noncomputable def vF:Nat → Code:=lpOf Tryz.f103
theorem U3:aP (aZ Tryz.f103) = true:=by kernel_rfl
theorem aH0:aA env L (n + 1) 103 args h = aM env (aA env L n) L h.length [] (U2 (Z2 (U2 (U1 (Z8 (Z2 (Z1 ([])))))))) vF ZY (args ++ List.replicate (Tryz.f103.ntmps - args.length) (.d .undef)) h (kFin env.P h.length false [.tmp 4]) :=
 a6 (mode:=1) (by kernel_rfl) Tryz.func103 (by kernel_rfl) (by kernel_rfl) U3 (by kernel_rfl) (by kernel_rfl)
noncomputable def yN:SC:=cD Tryz.f103 0
theorem y9:aO env call L nf thaw live (vF 0) m (n + 1) s h k = aM env call L nf thaw live vF yN s h (cB env call L nf thaw live (vF 0) m n k) :=
 aQ U3 (by kernel_rfl)
end
end Ev
end Go.Proofs.YtppdfjdfjfoddaaGreat
