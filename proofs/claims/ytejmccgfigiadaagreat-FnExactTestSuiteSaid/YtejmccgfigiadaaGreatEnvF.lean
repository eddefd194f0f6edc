/-
  Each function's code as an equation. Written by a program.
-/
import Derived.Test.YtejmccgfigiadaaGreatEnv
set_option maxRecDepth 100000
namespace Go.Proofs.YtejmccgfigiadaaGreat
namespace Ev
section
variable {R:Type} {call:b5} {L nf n:Nat} {thaw:List Nat} {live m:List Bool} {s args:List A} {h:H} {k:Exit → List A → H → Option R}
noncomputable def qF:SC:=bG Tryz.f3
noncomputable def aAc:Nat → Code:=lpOf Tryz.f3
theorem aAb:aL (a7 Tryz.f3) = true:=kr
theorem vO:aA env L (n + 1) 3 args h = aE env (aA env L n) L h.length [] ([]) aAc qF (args ++ List.replicate (Tryz.f3.ntmps - args.length) (.d .undef)) h (kFin env.P h.length false [.tmp 4]) :=
 bB (mode:=1) kr Tryz.func3 kr kr aAb kr kr
noncomputable def A9:SC:=bG Tryz.f12
noncomputable def aIe:Nat → Code:=lpOf Tryz.f12
theorem aIu:aL (a7 Tryz.f12) = true:=kr
theorem HK:aA env L (n + 1) 12 args h = aE env (aA env L n) L h.length [] ([]) aIe A9 (args ++ List.replicate (Tryz.f12.ntmps - args.length) (.d .undef)) h (kFin env.P h.length false [.tmp 4]) :=
 bB (mode:=1) kr Tryz.func12 kr kr aIu kr kr
noncomputable def qA:SC:=bG Tryz.f13
noncomputable def eR:Nat → Code:=lpOf Tryz.f13
theorem yG:aL (a7 Tryz.f13) = true:=kr
theorem sY:aA env L (n + 1) 13 args h = aE env (aA env L n) L h.length [] Bz8 eR qA (args ++ List.replicate (Tryz.f13.ntmps - args.length) (.d .undef)) h (kFin env.P h.length false [.tmp 4,.tmp 5]) :=
 bB (mode:=2) kr Tryz.func13 kr kr yG kr kr
noncomputable def wF:SC:=bO Tryz.f13 0
theorem xX:aJ env call L nf thaw live (eR 0) m (n + 1) s h k = aE env call L nf thaw live eR wF s h (bL env call L nf thaw live (eR 0) m n k) :=
 aK yG kr
noncomputable def wJ:SC:=bO Tryz.f13 1
theorem xE:aJ env call L nf thaw live (eR 1) m (n + 1) s h k = aE env call L nf thaw live eR wJ s h (bL env call L nf thaw live (eR 1) m n k) :=
 aK yG kr
noncomputable def vY:SC:=bO Tryz.f13 2
theorem xF:aJ env call L nf thaw live (eR 2) m (n + 1) s h k = aE env call L nf thaw live eR vY s h (bL env call L nf thaw live (eR 2) m n k) :=
 aK yG kr
noncomputable def YZ:SC:=bG Tryz.f14
noncomputable def aIx:Nat → Code:=lpOf Tryz.f14
theorem aIP:aL (a7 Tryz.f14) = true:=kr
theorem aIr:aA env L (n + 1) 14 args h = aE env (aA env L n) L h.length [] ([]) aIx YZ (args ++ List.replicate (Tryz.f14.ntmps - args.length) (.d .undef)) h (kFin env.P h.length true Tryz.f14.results.toList) :=
 bB (mode:=2) kr Tryz.func14 kr kr aIP kr kr
noncomputable def p8:SC:=bG Tryz.f15
noncomputable def eS:Nat → Code:=lpOf Tryz.f15
theorem yX:aL (a7 Tryz.f15) = true:=kr
theorem sW:aA env L (n + 1) 15 args h = aE env (aA env L n) L h.length [] Bz1 eS p8 (args ++ List.replicate (Tryz.f15.ntmps - args.length) (.d .undef)) h (kFin env.P h.length true [.tmp 4,.tmp 5]) :=
 bB (mode:=3) kr Tryz.func15 kr kr yX kr kr
noncomputable def wL:SC:=bO Tryz.f15 0
theorem w4:aJ env call L nf thaw live (eS 0) m (n + 1) s h k = aE env call L nf thaw live eS wL s h (bL env call L nf thaw live (eS 0) m n k) :=
 aK yX kr
noncomputable def wD:SC:=bO Tryz.f15 1
theorem wV:aJ env call L nf thaw live (eS 1) m (n + 1) s h k = aE env call L nf thaw live eS wD s h (bL env call L nf thaw live (eS 1) m n k) :=
 aK yX kr
noncomputable def D9:SC:=bO Tryz.f15 2
theorem IY:aJ env call L nf thaw live (eS 2) m (n + 1) s h k = aE env call L nf thaw live eS D9 s h (bL env call L nf thaw live (eS 2) m n k) :=
 aK yX kr
noncomputable def aEc:SC:=bG Tryz.f16
noncomputable def w8:Nat → Code:=lpOf Tryz.f16
theorem aB8:aL (a7 Tryz.f16) = true:=kr
theorem aNP:aA env L (n + 1) 16 args h = aE env (aA env L n) L h.length [] Bz9 w8 aEc (args ++ List.replicate (Tryz.f16.ntmps - args.length) (.d .undef)) h (kFin env.P h.length false [.tmp 4]) :=
 bB (mode:=1) kr Tryz.func16 kr kr aB8 kr kr
noncomputable def LI:SC:=bO Tryz.f16 0
theorem PM:aJ env call L nf thaw live (w8 0) m (n + 1) s h k = aE env call L nf thaw live w8 LI s h (bL env call L nf thaw live (w8 0) m n k) :=
 aK aB8 kr
noncomputable def ZK:SC:=bG Tryz.f17
noncomputable def aIm:Nat → Code:=lpOf Tryz.f17
theorem aI2:aL (a7 Tryz.f17) = true:=kr
theorem aII:aA env L (n + 1) 17 args h = aE env (aA env L n) L h.length [] ([]) aIm ZK (args ++ List.replicate (Tryz.f17.ntmps - args.length) (.d .undef)) h (kFin env.P h.length false [.tmp 4]) :=
 bB (mode:=1) kr Tryz.func17 kr kr aI2 kr kr
noncomputable def R2:SC:=bG Tryz.f18
noncomputable def aFb:Nat → Code:=lpOf Tryz.f18
theorem aEX:aL (a7 Tryz.f18) = true:=kr
theorem aEC:aA env L (n + 1) 18 args h = aE env (aA env L n) L h.length [] ([]) aFb R2 (args ++ List.replicate (Tryz.f18.ntmps - args.length) (.d .undef)) h (kFin env.P h.length false [.tmp 4]) :=
 bB (mode:=0) kr Tryz.func18 kr kr aEX kr kr
noncomputable def K3:SC:=bG Tryz.f19
noncomputable def pC:Nat → Code:=lpOf Tryz.f19
theorem UM:aL (a7 Tryz.f19) = true:=kr
theorem VP:aA env L (n + 1) 19 args h = aE env (aA env L n) L h.length [] Bz31 pC K3 (args ++ List.replicate (Tryz.f19.ntmps - args.length) (.d .undef)) h (kFin env.P h.length false [.tmp 4]) :=
 bB (mode:=0) kr Tryz.func19 kr kr UM kr kr
noncomputable def wO:SC:=bO Tryz.f19 0
theorem xC:aJ env call L nf thaw live (pC 0) m (n + 1) s h k = aE env call L nf thaw live pC wO s h (bL env call L nf thaw live (pC 0) m n k) :=
 aK UM kr
noncomputable def X5:SC:=bG Tryz.f20
noncomputable def sC:Nat → Code:=lpOf Tryz.f20
theorem VI:aL (a7 Tryz.f20) = true:=kr
theorem aIU:aA env L (n + 1) 20 args h = aE env (aA env L n) L h.length [] (U2 (Z2 (U2 (Z16 ([]))))) sC X5 (args ++ List.replicate (Tryz.f20.ntmps - args.length) (.d .undef)) h (kFin env.P h.length false [.tmp 4]) :=
 bB (mode:=1) kr Tryz.func20 kr kr VI kr kr
noncomputable def EX:SC:=bO Tryz.f20 0
theorem JV:aJ env call L nf thaw live (sC 0) m (n + 1) s h k = aE env call L nf thaw live sC EX s h (bL env call L nf thaw live (sC 0) m n k) :=
 aK VI kr
noncomputable def UJ:SC:=bG Tryz.f30
noncomputable def qL:Nat → Code:=lpOf Tryz.f30
theorem RH:aL (a7 Tryz.f30) = true:=kr
theorem aHU:aA env L (n + 1) 30 args h = aE env (aA env L n) L h.length [0,0,0,2] Bz38 qL UJ (args ++ List.replicate (Tryz.f30.ntmps - args.length) (.d .undef)) h (kFin env.P h.length true [.tmp 2]) :=
 bB (mode:=3) kr Tryz.func30 kr kr RH kr kr
noncomputable def tY:SC:=bO Tryz.f30 0
theorem vR:aJ env call L nf thaw live (qL 0) m (n + 1) s h k = aE env call L nf thaw live qL tY s h (bL env call L nf thaw live (qL 0) m n k) :=
 aK RH kr
noncomputable def GQ:SC:=bG Tryz.f31
noncomputable def eL:Nat → Code:=lpOf Tryz.f31
theorem uL:aL (a7 Tryz.f31) = true:=kr
theorem VX:aA env L (n + 1) 31 args h = aE env (aA env L n) L h.length [] Bz13 eL GQ (args ++ List.replicate (Tryz.f31.ntmps - args.length) (.d .undef)) h (kFin env.P h.length true [.tmp 2]) :=
 bB (mode:=3) kr Tryz.func31 kr kr uL kr kr
noncomputable def sD:SC:=bO Tryz.f31 0
theorem xD:aJ env call L nf thaw live (eL 0) m (n + 1) s h k = aE env call L nf thaw live eL sD s h (bL env call L nf thaw live (eL 0) m n k) :=
 aK uL kr
noncomputable def kO:SC:=bO Tryz.f31 1
theorem lM:aJ env call L nf thaw live (eL 1) m (n + 1) s h k = aE env call L nf thaw live eL kO s h (bL env call L nf thaw live (eL 1) m n k) :=
 aK uL kr
noncomputable def SG:SC:=bG Tryz.f39
noncomputable def D4:Nat → Code:=lpOf Tryz.f39
theorem aGF:aL (a7 Tryz.f39) = true:=kr
theorem V1:aA env L (n + 1) 39 args h = aE env (aA env L n) L h.length [] Bz19 D4 SG (args ++ List.replicate (Tryz.f39.ntmps - args.length) (.d .undef)) h (kFin env.P h.length false [.tmp 4]) :=
 bB (mode:=1) kr Tryz.func39 kr kr aGF kr kr
noncomputable def IQ:SC:=bO Tryz.f39 0
theorem G3:aJ env call L nf thaw live (D4 0) m (n + 1) s h k = aE env call L nf thaw live D4 IQ s h (bL env call L nf thaw live (D4 0) m n k) :=
 aK aGF kr
noncomputable def aA0:SC:=bG Tryz.f40
noncomputable def aQa:Nat → Code:=lpOf Tryz.f40
theorem aQz:aL (a7 Tryz.f40) = true:=kr
theorem aFZ:aA env L (n + 1) 40 args h = aE env (aA env L n) L h.length [] ([]) aQa aA0 (args ++ List.replicate (Tryz.f40.ntmps - args.length) (.d .undef)) h (kFin env.P h.length false [.tmp 4]) :=
 bB (mode:=1) kr Tryz.func40 kr kr aQz kr kr
noncomputable def jD:SC:=bG Tryz.f41
noncomputable def mZ:Nat → Code:=lpOf Tryz.f41
theorem F9:aL (a7 Tryz.f41) = true:=kr
theorem kB:aA env L (n + 1) 41 args h = aE env (aA env L n) L h.length [] Bz46 mZ jD (args ++ List.replicate (Tryz.f41.ntmps - args.length) (.d .undef)) h (kFin env.P h.length false [.tmp 2]) :=
 bB (mode:=1) kr Tryz.func41 kr kr F9 kr kr
noncomputable def oT:SC:=bO Tryz.f41 0
theorem p6:aJ env call L nf thaw live (mZ 0) m (n + 1) s h k = aE env call L nf thaw live mZ oT s h (bL env call L nf thaw live (mZ 0) m n k) :=
 aK F9 kr
noncomputable def HM:SC:=bG Tryz.f42
noncomputable def qU:Nat → Code:=lpOf Tryz.f42
theorem R4:aL (a7 Tryz.f42) = true:=kr
theorem Q6:aA env L (n + 1) 42 args h = aE env (aA env L n) L h.length [] Bz55 qU HM (args ++ List.replicate (Tryz.f42.ntmps - args.length) (.d .undef)) h (kFin env.P h.length false [.tmp 2]) :=
 bB (mode:=2) kr Tryz.func42 kr kr R4 kr kr
noncomputable def BY:SC:=bO Tryz.f42 0
theorem G2:aJ env call L nf thaw live (qU 0) m (n + 1) s h k = aE env call L nf thaw live qU BY s h (bL env call L nf thaw live (qU 0) m n k) :=
 aK R4 kr
noncomputable def vU:SC:=bG Tryz.f43
noncomputable def eM:Nat → Code:=lpOf Tryz.f43
theorem uE:aL (a7 Tryz.f43) = true:=kr
theorem DK:aA env L (n + 1) 43 args h = aE env (aA env L n) L h.length [] Bz28 eM vU (args ++ List.replicate (Tryz.f43.ntmps - args.length) (.d .undef)) h (kFin env.P h.length false [.tmp 2]) :=
 bB (mode:=2) kr Tryz.func43 kr kr uE kr kr
noncomputable def sR:SC:=bO Tryz.f43 0
theorem xJ:aJ env call L nf thaw live (eM 0) m (n + 1) s h k = aE env call L nf thaw live eM sR s h (bL env call L nf thaw live (eM 0) m n k) :=
 aK uE kr
noncomputable def kP:SC:=bO Tryz.f43 1
theorem lH:aJ env call L nf thaw live (eM 1) m (n + 1) s h k = aE env call L nf thaw live eM kP s h (bL env call L nf thaw live (eM 1) m n k) :=
 aK uE kr
noncomputable def X6:SC:=bG Tryz.f44
noncomputable def iI:Nat → Code:=lpOf Tryz.f44
theorem HW:aL (a7 Tryz.f44) = true:=kr
theorem aIn:aA env L (n + 1) 44 args h = aE env (aA env L n) L h.length [] Bz10 iI X6 (args ++ List.replicate (Tryz.f44.ntmps - args.length) (.d .undef)) h (kFin env.P h.length false [.tmp 4]) :=
 bB (mode:=2) kr Tryz.func44 kr kr HW kr kr
noncomputable def vV:SC:=bO Tryz.f44 0
theorem wR:aJ env call L nf thaw live (iI 0) m (n + 1) s h k = aE env call L nf thaw live iI vV s h (bL env call L nf thaw live (iI 0) m n k) :=
 aK HW kr
noncomputable def FI:SC:=bO Tryz.f44 1
theorem IZ:aJ env call L nf thaw live (iI 1) m (n + 1) s h k = aE env call L nf thaw live iI FI s h (bL env call L nf thaw live (iI 1) m n k) :=
 aK HW kr
noncomputable def MI:SC:=bG Tryz.f45
noncomputable def AS:Nat → Code:=lpOf Tryz.f45
theorem aD8:aL (a7 Tryz.f45) = true:=kr
theorem ST:aA env L (n + 1) 45 args h = aE env (aA env L n) L h.length [] Bz47 AS MI (args ++ List.replicate (Tryz.f45.ntmps - args.length) (.d .undef)) h (kFin env.P h.length false [.tmp 4]) :=
 bB (mode:=0) kr Tryz.func45 kr kr aD8 kr kr
noncomputable def OG:SC:=bO Tryz.f45 0
theorem RW:aJ env call L nf thaw live (AS 0) m (n + 1) s h k = aE env call L nf thaw live AS OG s h (bL env call L nf thaw live (AS 0) m n k) :=
 aK aD8 kr
noncomputable def aJj:SC:=bG Tryz.f46
noncomputable def yL:Nat → Code:=lpOf Tryz.f46
theorem aGw:aL (a7 Tryz.f46) = true:=kr
theorem aP7:aA env L (n + 1) 46 args h = aE env (aA env L n) L h.length (W4 (W2 (W1 [1002]))) Bz29 yL aJj (args ++ List.replicate (Tryz.f46.ntmps - args.length) (.d .undef)) h (kFin env.P h.length true [.tmp 2]) :=
 bB (mode:=2) kr Tryz.func46 kr kr aGw kr kr
noncomputable def S8:SC:=bO Tryz.f46 0
theorem U6:aJ env call L nf thaw live (yL 0) m (n + 1) s h k = aE env call L nf thaw live yL S8 s h (bL env call L nf thaw live (yL 0) m n k) :=
 aK aGw kr
noncomputable def aK3:SC:=bG Tryz.f47
noncomputable def DQ:Nat → Code:=lpOf Tryz.f47
theorem aGl:aL (a7 Tryz.f47) = true:=kr
theorem aQT:aA env L (n + 1) 47 args h = aE env (aA env L n) L h.length [] Bz20 DQ aK3 (args ++ List.replicate (Tryz.f47.ntmps - args.length) (.d .undef)) h (kFin env.P h.length true [.tmp 2]) :=
 bB (mode:=2) kr Tryz.func47 kr kr aGl kr kr
noncomputable def TC:SC:=bO Tryz.f47 0
theorem T8:aJ env call L nf thaw live (DQ 0) m (n + 1) s h k = aE env call L nf thaw live DQ TC s h (bL env call L nf thaw live (DQ 0) m n k) :=
 aK aGl kr
noncomputable def jE:SC:=bG Tryz.f48
noncomputable def e9:Nat → Code:=lpOf Tryz.f48
theorem vS:aL (a7 Tryz.f48) = true:=kr
theorem j8:aA env L (n + 1) 48 args h = aE env (aA env L n) L h.length [] Bz6 e9 jE (args ++ List.replicate (Tryz.f48.ntmps - args.length) (.d .undef)) h (kFin env.P h.length false [.tmp 2]) :=
 bB (mode:=1) kr Tryz.func48 kr kr vS kr kr
noncomputable def lQ:SC:=bO Tryz.f48 0
theorem mP:aJ env call L nf thaw live (e9 0) m (n + 1) s h k = aE env call L nf thaw live e9 lQ s h (bL env call L nf thaw live (e9 0) m n k) :=
 aK vS kr
noncomputable def lL:SC:=bO Tryz.f48 1
theorem mN:aJ env call L nf thaw live (e9 1) m (n + 1) s h k = aE env call L nf thaw live e9 lL s h (bL env call L nf thaw live (e9 1) m n k) :=
 aK vS kr
noncomputable def ZO:SC:=bG Tryz.f49
noncomputable def eW:Nat → Code:=lpOf Tryz.f49
theorem yB:aL (a7 Tryz.f49) = true:=kr
theorem aIb:aA env L (n + 1) 49 args h = aE env (aA env L n) L h.length (W8 (W4 [2002])) Bz4 eW ZO (args ++ List.replicate (Tryz.f49.ntmps - args.length) (.d .undef)) h (kFin env.P h.length false [.tmp 4]) :=
 bB (mode:=2) kr Tryz.func49 kr kr yB kr kr
noncomputable def DI:SC:=bO Tryz.f49 0
theorem JZ:aJ env call L nf thaw live (eW 0) m (n + 1) s h k = aE env call L nf thaw live eW DI s h (bL env call L nf thaw live (eW 0) m n k) :=
 aK yB kr
noncomputable def E4:SC:=bO Tryz.f49 1
theorem JJ:aJ env call L nf thaw live (eW 1) m (n + 1) s h k = aE env call L nf thaw live eW E4 s h (bL env call L nf thaw live (eW 1) m n k) :=
 aK yB kr
noncomputable def DM:SC:=bO Tryz.f49 2
theorem JC:aJ env call L nf thaw live (eW 2) m (n + 1) s h k = aE env call L nf thaw live eW DM s h (bL env call L nf thaw live (eW 2) m n k) :=
 aK yB kr
theorem F3 {L n:Nat} {args:List A} {h:H}:aA env L (n + 1) 50 args h = HG 94 52 args h:=by
 have:env.prim 50 = some (HG 94 52):=kr
 simp only [aA,this]
noncomputable def mB:SC:=bG Tryz.f51
noncomputable def tU:Nat → Code:=lpOf Tryz.f51
theorem uJ:aL (a7 Tryz.f51) = true:=kr
theorem tN:aA env L (n + 1) 51 args h = aE env (aA env L n) L h.length [] ([]) tU mB (args ++ List.replicate (Tryz.f51.ntmps - args.length) (.d .undef)) h (kFin env.P h.length true [.tmp 2]) :=
 bB (mode:=0) kr Tryz.func51 kr kr uJ kr kr
noncomputable def FD:SC:=bG Tryz.f52
noncomputable def YH:Nat → Code:=lpOf Tryz.f52
theorem YF:aL (a7 Tryz.f52) = true:=kr
theorem aLj:aA env L (n + 1) 52 args h = aE env (aA env L n) L h.length [] ([]) YH FD (args ++ List.replicate (Tryz.f52.ntmps - args.length) (.d .undef)) h (kFin env.P h.length false [.tmp 4]) :=
 bB (mode:=1) kr Tryz.func52 kr kr YF kr kr
noncomputable def aJQ:SC:=bG Tryz.f53
noncomputable def FN:Nat → Code:=lpOf Tryz.f53
theorem aFI:aL (a7 Tryz.f53) = true:=kr
theorem aP1:aA env L (n + 1) 53 args h = aE env (aA env L n) L h.length [] Bz19 FN aJQ (args ++ List.replicate (Tryz.f53.ntmps - args.length) (.d .undef)) h (kFin env.P h.length false [.tmp 4]) :=
 bB (mode:=1) kr Tryz.func53 kr kr aFI kr kr
noncomputable def SS:SC:=bO Tryz.f53 0
theorem U0:aJ env call L nf thaw live (FN 0) m (n + 1) s h k = aE env call L nf thaw live FN SS s h (bL env call L nf thaw live (FN 0) m n k) :=
 aK aFI kr
noncomputable def aK4:SC:=bG Tryz.f54
noncomputable def D7:Nat → Code:=lpOf Tryz.f54
theorem aG0:aL (a7 Tryz.f54) = true:=kr
theorem aPH:aA env L (n + 1) 54 args h = aE env (aA env L n) L h.length [] Bz9 D7 aK4 (args ++ List.replicate (Tryz.f54.ntmps - args.length) (.d .undef)) h (kFin env.P h.length false [.tmp 4]) :=
 bB (mode:=1) kr Tryz.func54 kr kr aG0 kr kr
noncomputable def SN:SC:=bO Tryz.f54 0
theorem TV:aJ env call L nf thaw live (D7 0) m (n + 1) s h k = aE env call L nf thaw live D7 SN s h (bL env call L nf thaw live (D7 0) m n k) :=
 aK aG0 kr
noncomputable def aC3:SC:=bG Tryz.f55
noncomputable def sP:Nat → Code:=lpOf Tryz.f55
theorem aAU:aL (a7 Tryz.f55) = true:=kr
theorem aMl:aA env L (n + 1) 55 args h = aE env (aA env L n) L h.length [] Bz12 sP aC3 (args ++ List.replicate (Tryz.f55.ntmps - args.length) (.d .undef)) h (kFin env.P h.length false [.tmp 4]) :=
 bB (mode:=0) kr Tryz.func55 kr kr aAU kr kr
noncomputable def K6:SC:=bO Tryz.f55 0
theorem PT:aJ env call L nf thaw live (sP 0) m (n + 1) s h k = aE env call L nf thaw live sP K6 s h (bL env call L nf thaw live (sP 0) m n k) :=
 aK aAU kr
noncomputable def aDd:SC:=bG Tryz.f56
noncomputable def x5:Nat → Code:=lpOf Tryz.f56
theorem aAA:aL (a7 Tryz.f56) = true:=kr
theorem aLC:aA env L (n + 1) 56 args h = aE env (aA env L n) L h.length [] Bz41 x5 aDd (args ++ List.replicate (Tryz.f56.ntmps - args.length) (.d .undef)) h (kFin env.P h.length false [.tmp 4]) :=
 bB (mode:=0) kr Tryz.func56 kr kr aAA kr kr
noncomputable def LE:SC:=bO Tryz.f56 0
theorem OY:aJ env call L nf thaw live (x5 0) m (n + 1) s h k = aE env call L nf thaw live x5 LE s h (bL env call L nf thaw live (x5 0) m n k) :=
 aK aAA kr
noncomputable def V7:SC:=bG Tryz.f57
noncomputable def zZ:Nat → Code:=lpOf Tryz.f57
theorem aDu:aL (a7 Tryz.f57) = true:=kr
theorem aDP:aA env L (n + 1) 57 args h = aE env (aA env L n) L h.length [] (U1 (Z1 (U2 (Z16 ([]))))) zZ V7 (args ++ List.replicate (Tryz.f57.ntmps - args.length) (.d .undef)) h (kFin env.P h.length false [.tmp 2]) :=
 bB (mode:=1) kr Tryz.func57 kr kr aDu kr kr
noncomputable def FL:SC:=bO Tryz.f57 0
theorem D6:aJ env call L nf thaw live (zZ 0) m (n + 1) s h k = aE env call L nf thaw live zZ FL s h (bL env call L nf thaw live (zZ 0) m n k) :=
 aK aDu kr
noncomputable def U3:SC:=bG Tryz.f64
noncomputable def aGQ:Nat → Code:=lpOf Tryz.f64
theorem aHr:aL (a7 Tryz.f64) = true:=kr
theorem aGW:aA env L (n + 1) 64 args h = aE env (aA env L n) L h.length [] ([]) aGQ U3 (args ++ List.replicate (Tryz.f64.ntmps - args.length) (.d .undef)) h (kFin env.P h.length false [.tmp 2]) :=
 bB (mode:=1) kr Tryz.func64 kr kr aHr kr kr
noncomputable def aPm:SC:=bG Tryz.f65
noncomputable def aVa:Nat → Code:=lpOf Tryz.f65
theorem aWh:aL (a7 Tryz.f65) = true:=kr
theorem aVs:aA env L (n + 1) 65 args h = aE env (aA env L n) L h.length [] ([]) aVa aPm (args ++ List.replicate (Tryz.f65.ntmps - args.length) (.d .undef)) h (kFin env.P h.length false [.tmp 4]) :=
 bB (mode:=1) kr Tryz.func65 kr kr aWh kr kr
noncomputable def HS:SC:=bG Tryz.f68
noncomputable def aHn:Nat → Code:=lpOf Tryz.f68
theorem aHG:aL (a7 Tryz.f68) = true:=kr
theorem QF:aA env L (n + 1) 68 args h = aE env (aA env L n) L h.length [] ([]) aHn HS (args ++ List.replicate (Tryz.f68.ntmps - args.length) (.d .undef)) h (kFin env.P h.length false [.tmp 4,.tmp 5]) :=
 bB (mode:=1) kr Tryz.func68 kr kr aHG kr kr
theorem zJ {L n:Nat} {args:List A} {h:H}:aA env L (n + 1) 69 args h = N3 52 args h:=by
 have:env.prim 69 = some (N3 52):=kr
 simp only [aA,this]
noncomputable def lO:SC:=bG Tryz.f70
noncomputable def aEx:Nat → Code:=lpOf Tryz.f70
theorem aEv:aL (a7 Tryz.f70) = true:=kr
theorem m8:aA env L (n + 1) 70 args h = aE env (aA env L n) L h.length [] ([]) aEx lO (args ++ List.replicate (Tryz.f70.ntmps - args.length) (.d .undef)) h (kFin env.P h.length false [.tmp 6,.tmp 7]) :=
 bB (mode:=1) kr Tryz.func70 kr kr aEv kr kr
noncomputable def pX:SC:=bG Tryz.f71
noncomputable def B1:Nat → Code:=lpOf Tryz.f71
theorem BN:aL (a7 Tryz.f71) = true:=kr
theorem BM:aA env L (n + 1) 71 args h = aE env (aA env L n) L h.length [] ([]) B1 pX (args ++ List.replicate (Tryz.f71.ntmps - args.length) (.d .undef)) h (kFin env.P h.length false [.tmp 4]) :=
 bB (mode:=1) kr Tryz.func71 kr kr BN kr kr
noncomputable def Q8:SC:=bG Tryz.f77
noncomputable def aFg:Nat → Code:=lpOf Tryz.f77
theorem aFh:aL (a7 Tryz.f77) = true:=kr
theorem aEW:aA env L (n + 1) 77 args h = aE env (aA env L n) L h.length [] ([]) aFg Q8 (args ++ List.replicate (Tryz.f77.ntmps - args.length) (.d .undef)) h (kFin env.P h.length false [.tmp 10,.tmp 11]) :=
 bB (mode:=1) kr Tryz.func77 kr kr aFh kr kr
noncomputable def aFq:SC:=bG Tryz.f80
noncomputable def aQ7:Nat → Code:=lpOf Tryz.f80
theorem aSP:aL (a7 Tryz.f80) = true:=kr
theorem aJt:aA env L (n + 1) 80 args h = aE env (aA env L n) L h.length [] ([]) aQ7 aFq (args ++ List.replicate (Tryz.f80.ntmps - args.length) (.d .undef)) h (kFin env.P h.length false [.tmp 4]) :=
 bB (mode:=1) kr Tryz.func80 kr kr aSP kr kr
noncomputable def TS:SC:=bG Tryz.f81
noncomputable def aHx:Nat → Code:=lpOf Tryz.f81
theorem aFO:aL (a7 Tryz.f81) = true:=kr
theorem aGr:aA env L (n + 1) 81 args h = aE env (aA env L n) L h.length [] ([]) aHx TS (args ++ List.replicate (Tryz.f81.ntmps - args.length) (.d .undef)) h (kFin env.P h.length false [.tmp 2]) :=
 bB (mode:=1) kr Tryz.func81 kr kr aFO kr kr
noncomputable def Q1:SC:=bG Tryz.f82
noncomputable def FK:Nat → Code:=lpOf Tryz.f82
theorem aGS:aL (a7 Tryz.f82) = true:=kr
theorem WV:aA env L (n + 1) 82 args h = aE env (aA env L n) L h.length [] Bz27 FK Q1 (args ++ List.replicate (Tryz.f82.ntmps - args.length) (.d .undef)) h (kFin env.P h.length false [.tmp 6]) :=
 bB (mode:=1) kr Tryz.func82 kr kr aGS kr kr
noncomputable def AY:SC:=bO Tryz.f82 0
theorem yE:aJ env call L nf thaw live (FK 0) m (n + 1) s h k = aE env call L nf thaw live FK AY s h (bL env call L nf thaw live (FK 0) m n k) :=
 aK aGS kr
noncomputable def ZQ:SC:=bG Tryz.f83
noncomputable def tB:Nat → Code:=lpOf Tryz.f83
theorem UD:aL (a7 Tryz.f83) = true:=kr
theorem aIS:aA env L (n + 1) 83 args h = aE env (aA env L n) L h.length [] Bz42 tB ZQ (args ++ List.replicate (Tryz.f83.ntmps - args.length) (.d .undef)) h (kFin env.P h.length false [.tmp 2]) :=
 bB (mode:=2) kr Tryz.func83 kr kr UD kr kr
noncomputable def wC:SC:=bO Tryz.f83 0
theorem xO:aJ env call L nf thaw live (tB 0) m (n + 1) s h k = aE env call L nf thaw live tB wC s h (bL env call L nf thaw live (tB 0) m n k) :=
 aK UD kr
noncomputable def aHS:SC:=bG Tryz.f84
noncomputable def nL:Nat → Code:=lpOf Tryz.f84
theorem SX:aL (a7 Tryz.f84) = true:=kr
theorem aN8:aA env L (n + 1) 84 args h = aE env (aA env L n) L h.length [] Bz17 nL aHS (args ++ List.replicate (Tryz.f84.ntmps - args.length) (.d .undef)) h (kFin env.P h.length false Tryz.f84.results.toList) :=
 bB (mode:=2) kr Tryz.func84 kr kr SX kr kr
noncomputable def E5:SC:=bO Tryz.f84 0
theorem FC:aJ env call L nf thaw live (nL 0) m (n + 1) s h k = aE env call L nf thaw live nL E5 s h (bL env call L nf thaw live (nL 0) m n k) :=
 aK SX kr
noncomputable def OI:SC:=bO Tryz.f84 1
theorem SD:aJ env call L nf thaw live (nL 1) m (n + 1) s h k = aE env call L nf thaw live nL OI s h (bL env call L nf thaw live (nL 1) m n k) :=
 aK SX kr
noncomputable def yZ:SC:=bG Tryz.f85
noncomputable def aF9:Nat → Code:=lpOf Tryz.f85
theorem aFQ:aL (a7 Tryz.f85) = true:=kr
theorem EG:aA env L (n + 1) 85 args h = aE env (aA env L n) L h.length [] ([]) aF9 yZ (args ++ List.replicate (Tryz.f85.ntmps - args.length) (.d .undef)) h (kFin env.P h.length false [.tmp 4,.tmp 5]) :=
 bB (mode:=1) kr Tryz.func85 kr kr aFQ kr kr
noncomputable def qD:SC:=bG Tryz.f86
noncomputable def aEO:Nat → Code:=lpOf Tryz.f86
theorem aEQ:aL (a7 Tryz.f86) = true:=kr
theorem uH:aA env L (n + 1) 86 args h = aE env (aA env L n) L h.length [] ([]) aEO qD (args ++ List.replicate (Tryz.f86.ntmps - args.length) (.d .undef)) h (kFin env.P h.length false [.tmp 6,.tmp 7]) :=
 bB (mode:=1) kr Tryz.func86 kr kr aEQ kr kr
noncomputable def aBh:SC:=bG Tryz.f87
noncomputable def F0:Nat → Code:=lpOf Tryz.f87
theorem aHg:aL (a7 Tryz.f87) = true:=kr
theorem aGo:aA env L (n + 1) 87 args h = aE env (aA env L n) L h.length [] Bz26 F0 aBh (args ++ List.replicate (Tryz.f87.ntmps - args.length) (.d .undef)) h (kFin env.P h.length false [.tmp 4]) :=
 bB (mode:=1) kr Tryz.func87 kr kr aHg kr kr
noncomputable def IL:SC:=bO Tryz.f87 0
theorem G9:aJ env call L nf thaw live (F0 0) m (n + 1) s h k = aE env call L nf thaw live F0 IL s h (bL env call L nf thaw live (F0 0) m n k) :=
 aK aHg kr
noncomputable def aGM:SC:=bG Tryz.f88
noncomputable def aOt:Nat → Code:=lpOf Tryz.f88
theorem aOl:aL (a7 Tryz.f88) = true:=kr
theorem aOn:aA env L (n + 1) 88 args h = aE env (aA env L n) L h.length [] ([]) aOt aGM (args ++ List.replicate (Tryz.f88.ntmps - args.length) (.d .undef)) h (kFin env.P h.length false [.tmp 2]) :=
 bB (mode:=1) kr Tryz.func88 kr kr aOl kr kr
noncomputable def aAC:SC:=bG Tryz.f89
noncomputable def uU:Nat → Code:=lpOf Tryz.f89
theorem ZC:aL (a7 Tryz.f89) = true:=kr
theorem aLl:aA env L (n + 1) 89 args h = aE env (aA env L n) L h.length [] Bz48 uU aAC (args ++ List.replicate (Tryz.f89.ntmps - args.length) (.d .undef)) h (kFin env.P h.length false [.tmp 4]) :=
 bB (mode:=1) kr Tryz.func89 kr kr ZC kr kr
noncomputable def s6:SC:=bO Tryz.f89 0
theorem r6:aJ env call L nf thaw live (uU 0) m (n + 1) s h k = aE env call L nf thaw live uU s6 s h (bL env call L nf thaw live (uU 0) m n k) :=
 aK ZC kr
noncomputable def aMA:SC:=bG Tryz.f90
noncomputable def KH:Nat → Code:=lpOf Tryz.f90
theorem aKj:aL (a7 Tryz.f90) = true:=kr
theorem aRi:aA env L (n + 1) 90 args h = aE env (aA env L n) L h.length [] Bz20 KH aMA (args ++ List.replicate (Tryz.f90.ntmps - args.length) (.d .undef)) h (kFin env.P h.length true [.tmp 2]) :=
 bB (mode:=2) kr Tryz.func90 kr kr aKj kr kr
noncomputable def XX:SC:=bO Tryz.f90 0
theorem YW:aJ env call L nf thaw live (KH 0) m (n + 1) s h k = aE env call L nf thaw live KH XX s h (bL env call L nf thaw live (KH 0) m n k) :=
 aK aKj kr
noncomputable def ZF:SC:=bG Tryz.f91
noncomputable def o9:Nat → Code:=lpOf Tryz.f91
theorem TO:aL (a7 Tryz.f91) = true:=kr
theorem aIo:aA env L (n + 1) 91 args h = aE env (aA env L n) L h.length [0,0,0,2] Bz22 o9 ZF (args ++ List.replicate (Tryz.f91.ntmps - args.length) (.d .undef)) h (kFin env.P h.length false [.tmp 2]) :=
 bB (mode:=2) kr Tryz.func91 kr kr TO kr kr
noncomputable def wQ:SC:=bO Tryz.f91 0
theorem x9:aJ env call L nf thaw live (o9 0) m (n + 1) s h k = aE env call L nf thaw live o9 wQ s h (bL env call L nf thaw live (o9 0) m n k) :=
 aK TO kr
noncomputable def TX:SC:=bG Tryz.f92
noncomputable def aFR:Nat → Code:=lpOf Tryz.f92
theorem aHu:aL (a7 Tryz.f92) = true:=kr
theorem aHk:aA env L (n + 1) 92 args h = aE env (aA env L n) L h.length [] ([]) aFR TX (args ++ List.replicate (Tryz.f92.ntmps - args.length) (.d .undef)) h (kFin env.P h.length false [.tmp 2]) :=
 bB (mode:=1) kr Tryz.func92 kr kr aHu kr kr
noncomputable def sN:SC:=bG Tryz.f95
noncomputable def jJ:Nat → Code:=lpOf Tryz.f95
theorem BA:aL (a7 Tryz.f95) = true:=kr
theorem YY:aA env L (n + 1) 95 args h = aE env (aA env L n) L h.length [] Bz25 jJ sN (args ++ List.replicate (Tryz.f95.ntmps - args.length) (.d .undef)) h (kFin env.P h.length false [.tmp 2]) :=
 bB (mode:=1) kr Tryz.func95 kr kr BA kr kr
noncomputable def kW:SC:=bO Tryz.f95 0
theorem zK:aJ env call L nf thaw live (jJ 0) m (n + 1) s h k = aE env call L nf thaw live jJ kW s h (bL env call L nf thaw live (jJ 0) m n k) :=
 aK BA kr
noncomputable def iJ:SC:=bG Tryz.f96
noncomputable def JR:Nat → Code:=lpOf Tryz.f96
theorem JQ:aL (a7 Tryz.f96) = true:=kr
theorem xV:aA env L (n + 1) 96 args h = aE env (aA env L n) L h.length [] ([]) JR iJ (args ++ List.replicate (Tryz.f96.ntmps - args.length) (.d .undef)) h (kFin env.P h.length false [.tmp 4]) :=
 bB (mode:=1) kr Tryz.func96 kr kr JQ kr kr
noncomputable def fK:SC:=bG Tryz.f97
noncomputable def C5:Nat → Code:=lpOf Tryz.f97
theorem CD:aL (a7 Tryz.f97) = true:=kr
theorem sK:aA env L (n + 1) 97 args h = aE env (aA env L n) L h.length [] ([]) C5 fK (args ++ List.replicate (Tryz.f97.ntmps - args.length) (.d .undef)) h (kFin env.P h.length false [.tmp 4]) :=
 bB (mode:=1) kr Tryz.func97 kr kr CD kr kr
noncomputable def aMk:SC:=bG Tryz.f98
noncomputable def KB:Nat → Code:=lpOf Tryz.f98
theorem aJ9:aL (a7 Tryz.f98) = true:=kr
theorem aRn:aA env L (n + 1) 98 args h = aE env (aA env L n) L h.length [] Bz9 KB aMk (args ++ List.replicate (Tryz.f98.ntmps - args.length) (.d .undef)) h (kFin env.P h.length false [.tmp 4]) :=
 bB (mode:=1) kr Tryz.func98 kr kr aJ9 kr kr
noncomputable def XH:SC:=bO Tryz.f98 0
theorem YI:aJ env call L nf thaw live (KB 0) m (n + 1) s h k = aE env call L nf thaw live KB XH s h (bL env call L nf thaw live (KB 0) m n k) :=
 aK aJ9 kr
noncomputable def aF7:SC:=bG Tryz.f99
noncomputable def AN:Nat → Code:=lpOf Tryz.f99
theorem aDO:aL (a7 Tryz.f99) = true:=kr
theorem aOu:aA env L (n + 1) 99 args h = aE env (aA env L n) L h.length [] Bz12 AN aF7 (args ++ List.replicate (Tryz.f99.ntmps - args.length) (.d .undef)) h (kFin env.P h.length false [.tmp 4]) :=
 bB (mode:=0) kr Tryz.func99 kr kr aDO kr kr
noncomputable def O7:SC:=bO Tryz.f99 0
theorem QY:aJ env call L nf thaw live (AN 0) m (n + 1) s h k = aE env call L nf thaw live AN O7 s h (bL env call L nf thaw live (AN 0) m n k) :=
 aK aDO kr
noncomputable def ZE:SC:=bG Tryz.f105
noncomputable def aIE:Nat → Code:=lpOf Tryz.f105
theorem aIL:aL (a7 Tryz.f105) = true:=kr
theorem aIF:aA env L (n + 1) 105 args h = aE env (aA env L n) L h.length [] ([]) aIE ZE (args ++ List.replicate (Tryz.f105.ntmps - args.length) (.d .undef)) h (kFin env.P h.length false [.tmp 4,.tmp 5]) :=
 bB (mode:=1) kr Tryz.func105 kr kr aIL kr kr
noncomputable def zP:SC:=bG Tryz.f106
noncomputable def aBy:Nat → Code:=lpOf Tryz.f106
theorem aBY:aL (a7 Tryz.f106) = true:=kr
theorem J0:aA env L (n + 1) 106 args h = aE env (aA env L n) L h.length [] ([]) aBy zP (args ++ List.replicate (Tryz.f106.ntmps - args.length) (.d .undef)) h (kFin env.P h.length false [.tmp 3]) :=
 bB (mode:=0) kr Tryz.func106 kr kr aBY kr kr
noncomputable def JE:SC:=bG Tryz.f109
noncomputable def Z9:Nat → Code:=lpOf Tryz.f109
theorem ZY:aL (a7 Tryz.f109) = true:=kr
theorem aAg:aA env L (n + 1) 109 args h = aE env (aA env L n) L h.length [] ([]) Z9 JE (args ++ List.replicate (Tryz.f109.ntmps - args.length) (.d .undef)) h (kFin env.P h.length false [.tmp 4]) :=
 bB (mode:=0) kr Tryz.func109 kr kr ZY kr kr
noncomputable def m9:SC:=bG Tryz.f110
noncomputable def fR:Nat → Code:=lpOf Tryz.f110
theorem rK:aL (a7 Tryz.f110) = true:=kr
theorem rJ:aA env L (n + 1) 110 args h = aE env (aA env L n) L h.length [] Bz43 fR m9 (args ++ List.replicate (Tryz.f110.ntmps - args.length) (.d .undef)) h (kFin env.P h.length false [.tmp 4]) :=
 bB (mode:=1) kr Tryz.func110 kr kr rK kr kr
noncomputable def iO:SC:=bO Tryz.f110 0
theorem kD:aJ env call L nf thaw live (fR 0) m (n + 1) s h k = aE env call L nf thaw live fR iO s h (bL env call L nf thaw live (fR 0) m n k) :=
 aK rK kr
noncomputable def aDX:SC:=bG Tryz.f117
noncomputable def gK:Nat → Code:=lpOf Tryz.f117
theorem DF:aL (a7 Tryz.f117) = true:=kr
theorem aNy:aA env L (n + 1) 117 args h = aE env (aA env L n) L h.length [] Bz3 gK aDX (args ++ List.replicate (Tryz.f117.ntmps - args.length) (.d .undef)) h (kFin env.P h.length false [.tmp 2]) :=
 bB (mode:=2) kr Tryz.func117 kr kr DF kr kr
noncomputable def K8:SC:=bO Tryz.f117 0
theorem OP:aJ env call L nf thaw live (gK 0) m (n + 1) s h k = aE env call L nf thaw live gK K8 s h (bL env call L nf thaw live (gK 0) m n k) :=
 aK DF kr
noncomputable def K7:SC:=bO Tryz.f117 1
theorem NS:aJ env call L nf thaw live (gK 1) m (n + 1) s h k = aE env call L nf thaw live gK K7 s h (bL env call L nf thaw live (gK 1) m n k) :=
 aK DF kr
noncomputable def KO:SC:=bO Tryz.f117 2
theorem P2:aJ env call L nf thaw live (gK 2) m (n + 1) s h k = aE env call L nf thaw live gK KO s h (bL env call L nf thaw live (gK 2) m n k) :=
 aK DF kr
noncomputable def KE:SC:=bG Tryz.f118
noncomputable def ZU:Nat → Code:=lpOf Tryz.f118
theorem ZX:aL (a7 Tryz.f118) = true:=kr
theorem Z7:aA env L (n + 1) 118 args h = aE env (aA env L n) L h.length [] ([]) ZU KE (args ++ List.replicate (Tryz.f118.ntmps - args.length) (.d .undef)) h (kFin env.P h.length false [.tmp 9]) :=
 bB (mode:=0) kr Tryz.func118 kr kr ZX kr kr
noncomputable def BB:SC:=bG Tryz.f119
noncomputable def eU:Nat → Code:=lpOf Tryz.f119
theorem yO:aL (a7 Tryz.f119) = true:=kr
theorem IE:aA env L (n + 1) 119 args h = aE env (aA env L n) L h.length (W16 (W2 [2])) Bz2 eU BB (args ++ List.replicate (Tryz.f119.ntmps - args.length) (.d .undef)) h (kFin env.P h.length false [.tmp 10,.tmp 11]) :=
 bB (mode:=1) kr Tryz.func119 kr kr yO kr kr
noncomputable def qJ:SC:=bO Tryz.f119 0
theorem qI:aJ env call L nf thaw live (eU 0) m (n + 1) s h k = aE env call L nf thaw live eU qJ s h (bL env call L nf thaw live (eU 0) m n k) :=
 aK yO kr
noncomputable def wP:SC:=bO Tryz.f119 1
theorem xB:aJ env call L nf thaw live (eU 1) m (n + 1) s h k = aE env call L nf thaw live eU wP s h (bL env call L nf thaw live (eU 1) m n k) :=
 aK yO kr
noncomputable def DL:SC:=bO Tryz.f119 2
theorem I4:aJ env call L nf thaw live (eU 2) m (n + 1) s h k = aE env call L nf thaw live eU DL s h (bL env call L nf thaw live (eU 2) m n k) :=
 aK yO kr
noncomputable def KD:SC:=bG Tryz.f120
noncomputable def ZV:Nat → Code:=lpOf Tryz.f120
theorem Z0:aL (a7 Tryz.f120) = true:=kr
theorem aAa:aA env L (n + 1) 120 args h = aE env (aA env L n) L h.length [] ([]) ZV KD (args ++ List.replicate (Tryz.f120.ntmps - args.length) (.d .undef)) h (kFin env.P h.length false [.tmp 6]) :=
 bB (mode:=0) kr Tryz.func120 kr kr Z0 kr kr
noncomputable def aKG:SC:=bG Tryz.f123
noncomputable def aQS:Nat → Code:=lpOf Tryz.f123
theorem aQc:aL (a7 Tryz.f123) = true:=kr
theorem aQU:aA env L (n + 1) 123 args h = aE env (aA env L n) L h.length [] ([]) aQS aKG (args ++ List.replicate (Tryz.f123.ntmps - args.length) (.d .undef)) h (kFin env.P h.length false [.tmp 4]) :=
 bB (mode:=1) kr Tryz.func123 kr kr aQc kr kr
noncomputable def aDy:SC:=bG Tryz.f124
noncomputable def kE:Nat → Code:=lpOf Tryz.f124
theorem OF:aL (a7 Tryz.f124) = true:=kr
theorem aM1:aA env L (n + 1) 124 args h = aE env (aA env L n) L h.length [] Bz24 kE aDy (args ++ List.replicate (Tryz.f124.ntmps - args.length) (.d .undef)) h (kFin env.P h.length false [.tmp 2]) :=
 bB (mode:=2) kr Tryz.func124 kr kr OF kr kr
noncomputable def KP:SC:=bO Tryz.f124 0
theorem N5:aJ env call L nf thaw live (kE 0) m (n + 1) s h k = aE env call L nf thaw live kE KP s h (bL env call L nf thaw live (kE 0) m n k) :=
 aK OF kr
noncomputable def A5:SC:=bO Tryz.f124 1
theorem BZ:aJ env call L nf thaw live (kE 1) m (n + 1) s h k = aE env call L nf thaw live kE A5 s h (bL env call L nf thaw live (kE 1) m n k) :=
 aK OF kr
noncomputable def aDi:SC:=bG Tryz.f125
noncomputable def xL:Nat → Code:=lpOf Tryz.f125
theorem aBX:aL (a7 Tryz.f125) = true:=kr
theorem aNL:aA env L (n + 1) 125 args h = aE env (aA env L n) L h.length [] Bz58 xL aDi (args ++ List.replicate (Tryz.f125.ntmps - args.length) (.d .undef)) h (kFin env.P h.length false [.tmp 4]) :=
 bB (mode:=1) kr Tryz.func125 kr kr aBX kr kr
noncomputable def KQ:SC:=bO Tryz.f125 0
theorem NU:aJ env call L nf thaw live (xL 0) m (n + 1) s h k = aE env call L nf thaw live xL KQ s h (bL env call L nf thaw live (xL 0) m n k) :=
 aK aBX kr
noncomputable def IP:SC:=bG Tryz.f126
noncomputable def aMp:Nat → Code:=lpOf Tryz.f126
theorem aM7:aL (a7 Tryz.f126) = true:=kr
theorem NQ:aA env L (n + 1) 126 args h = aE env (aA env L n) L h.length [] ([]) aMp IP (args ++ List.replicate (Tryz.f126.ntmps - args.length) (.d .undef)) h (kFin env.P h.length false [.tmp 4]) :=
 bB (mode:=1) kr Tryz.func126 kr kr aM7 kr kr
noncomputable def II:SC:=bG Tryz.f127
noncomputable def dL:Nat → Code:=lpOf Tryz.f127
theorem xW:aL (a7 Tryz.f127) = true:=kr
theorem OO:aA env L (n + 1) 127 args h = aE env (aA env L n) L h.length [] Bz0 dL II (args ++ List.replicate (Tryz.f127.ntmps - args.length) (.d .undef)) h (kFin env.P h.length false [.tmp 2,.tmp 3]) :=
 bB (mode:=1) kr Tryz.func127 kr kr xW kr kr
noncomputable def LJ:SC:=bO Tryz.f127 0
theorem PD:aJ env call L nf thaw live (dL 0) m (n + 1) s h k = aE env call L nf thaw live dL LJ s h (bL env call L nf thaw live (dL 0) m n k) :=
 aK xW kr
noncomputable def A1:SC:=bO Tryz.f127 1
theorem BV:aJ env call L nf thaw live (dL 1) m (n + 1) s h k = aE env call L nf thaw live dL A1 s h (bL env call L nf thaw live (dL 1) m n k) :=
 aK xW kr
noncomputable def uX:SC:=bO Tryz.f127 2
theorem tW:aJ env call L nf thaw live (dL 2) m (n + 1) s h k = aE env call L nf thaw live dL uX s h (bL env call L nf thaw live (dL 2) m n k) :=
 aK xW kr
noncomputable def u5:SC:=bO Tryz.f127 3
theorem t8:aJ env call L nf thaw live (dL 3) m (n + 1) s h k = aE env call L nf thaw live dL u5 s h (bL env call L nf thaw live (dL 3) m n k) :=
 aK xW kr
noncomputable def yS:SC:=bG Tryz.f128
noncomputable def aFA:Nat → Code:=lpOf Tryz.f128
theorem aHX:aL (a7 Tryz.f128) = true:=kr
theorem EK:aA env L (n + 1) 128 args h = aE env (aA env L n) L h.length [] ([]) aFA yS (args ++ List.replicate (Tryz.f128.ntmps - args.length) (.d .undef)) h (kFin env.P h.length false [.tmp 4]) :=
 bB (mode:=1) kr Tryz.func128 kr kr aHX kr kr
noncomputable def v8:SC:=bG Tryz.f130
noncomputable def NT:Nat → Code:=lpOf Tryz.f130
theorem PA:aL (a7 Tryz.f130) = true:=kr
theorem aFt:aA env L (n + 1) 130 args h = aE env (aA env L n) L h.length [] ([]) NT v8 (args ++ List.replicate (Tryz.f130.ntmps - args.length) (.d .undef)) h (kFin env.P h.length false [.tmp 2]) :=
 bB (mode:=1) kr Tryz.func130 kr kr PA kr kr
noncomputable def qN:SC:=bG Tryz.f131
noncomputable def GC:Nat → Code:=lpOf Tryz.f131
theorem G0:aL (a7 Tryz.f131) = true:=kr
theorem ZZ:aA env L (n + 1) 131 args h = aE env (aA env L n) L h.length [] ([]) GC qN (args ++ List.replicate (Tryz.f131.ntmps - args.length) (.d .undef)) h (kFin env.P h.length false [.tmp 2]) :=
 bB (mode:=1) kr Tryz.func131 kr kr G0 kr kr
noncomputable def PU:SC:=bG Tryz.f134
noncomputable def aCI:Nat → Code:=lpOf Tryz.f134
theorem aCW:aL (a7 Tryz.f134) = true:=kr
theorem aCO:aA env L (n + 1) 134 args h = aE env (aA env L n) L h.length [] ([]) aCI PU (args ++ List.replicate (Tryz.f134.ntmps - args.length) (.d .undef)) h (kFin env.P h.length false [.tmp 7]) :=
 bB (mode:=0) kr Tryz.func134 kr kr aCW kr kr
noncomputable def tO:SC:=bG Tryz.f151
noncomputable def lZ:Nat → Code:=lpOf Tryz.f151
theorem L3:aL (a7 Tryz.f151) = true:=kr
theorem zH:aA env L (n + 1) 151 args h = aE env (aA env L n) L h.length (W8 (W2 [2])) Bz7 lZ tO (args ++ List.replicate (Tryz.f151.ntmps - args.length) (.d .undef)) h (kFin env.P h.length false [.tmp 9]) :=
 bB (mode:=0) kr Tryz.func151 kr kr L3 kr kr
noncomputable def d7:SC:=bO Tryz.f151 0
theorem dS:aJ env call L nf thaw live (lZ 0) m (n + 1) s h k = aE env call L nf thaw live lZ d7 s h (bL env call L nf thaw live (lZ 0) m n k) :=
 aK L3 kr
noncomputable def aCa:SC:=bG Tryz.f152
noncomputable def uR:Nat → Code:=lpOf Tryz.f152
theorem YM:aL (a7 Tryz.f152) = true:=kr
theorem aLn:aA env L (n + 1) 152 args h = aE env (aA env L n) L h.length [0,0,0,2] Bz33 uR aCa (args ++ List.replicate (Tryz.f152.ntmps - args.length) (.d .undef)) h (kFin env.P h.length false [.tmp 2]) :=
 bB (mode:=1) kr Tryz.func152 kr kr YM kr kr
noncomputable def HP:SC:=bO Tryz.f152 0
theorem LS:aJ env call L nf thaw live (uR 0) m (n + 1) s h k = aE env call L nf thaw live uR HP s h (bL env call L nf thaw live (uR 0) m n k) :=
 aK YM kr
noncomputable def aFe:SC:=bG Tryz.f153
noncomputable def J9:Nat → Code:=lpOf Tryz.f153
theorem aKt:aL (a7 Tryz.f153) = true:=kr
theorem aJM:aA env L (n + 1) 153 args h = aE env (aA env L n) L h.length [] Bz26 J9 aFe (args ++ List.replicate (Tryz.f153.ntmps - args.length) (.d .undef)) h (kFin env.P h.length false [.tmp 4]) :=
 bB (mode:=1) kr Tryz.func153 kr kr aKt kr kr
noncomputable def MP:SC:=bO Tryz.f153 0
theorem KX:aJ env call L nf thaw live (J9 0) m (n + 1) s h k = aE env call L nf thaw live J9 MP s h (bL env call L nf thaw live (J9 0) m n k) :=
 aK aKt kr
noncomputable def aDZ:SC:=bG Tryz.f154
noncomputable def lP:Nat → Code:=lpOf Tryz.f154
theorem OW:aL (a7 Tryz.f154) = true:=kr
theorem aNH:aA env L (n + 1) 154 args h = aE env (aA env L n) L h.length [] Bz30 lP aDZ (args ++ List.replicate (Tryz.f154.ntmps - args.length) (.d .undef)) h (kFin env.P h.length false [.tmp 2]) :=
 bB (mode:=2) kr Tryz.func154 kr kr OW kr kr
noncomputable def KR:SC:=bO Tryz.f154 0
theorem PH:aJ env call L nf thaw live (lP 0) m (n + 1) s h k = aE env call L nf thaw live lP KR s h (bL env call L nf thaw live (lP 0) m n k) :=
 aK OW kr
noncomputable def K0:SC:=bO Tryz.f154 1
theorem P8:aJ env call L nf thaw live (lP 1) m (n + 1) s h k = aE env call L nf thaw live lP K0 s h (bL env call L nf thaw live (lP 1) m n k) :=
 aK OW kr
noncomputable def aC9:SC:=bG Tryz.f155
noncomputable def lR:Nat → Code:=lpOf Tryz.f155
theorem P9:aL (a7 Tryz.f155) = true:=kr
theorem aNT:aA env L (n + 1) 155 args h = aE env (aA env L n) L h.length [] Bz14 lR aC9 (args ++ List.replicate (Tryz.f155.ntmps - args.length) (.d .undef)) h (kFin env.P h.length false [.tmp 6]) :=
 bB (mode:=2) kr Tryz.func155 kr kr P9 kr kr
noncomputable def LH:SC:=bO Tryz.f155 0
theorem PF:aJ env call L nf thaw live (lR 0) m (n + 1) s h k = aE env call L nf thaw live lR LH s h (bL env call L nf thaw live (lR 0) m n k) :=
 aK P9 kr
noncomputable def KY:SC:=bO Tryz.f155 1
theorem OX:aJ env call L nf thaw live (lR 1) m (n + 1) s h k = aE env call L nf thaw live lR KY s h (bL env call L nf thaw live (lR 1) m n k) :=
 aK P9 kr
noncomputable def rF:SC:=bG Tryz.f156
noncomputable def aNE:Nat → Code:=lpOf Tryz.f156
theorem aMe:aL (a7 Tryz.f156) = true:=kr
theorem sJ:aA env L (n + 1) 156 args h = aE env (aA env L n) L h.length [] (Z2 (U1 (Z2 (Z1 (U2 (Z32 (Z16 (Z8 ([]))))))))) aNE rF (args ++ List.replicate (Tryz.f156.ntmps - args.length) (.d .undef)) h (kFin env.P h.length false [.tmp 6]) :=
 bB (mode:=1) kr Tryz.func156 kr kr aMe kr kr
noncomputable def aCj:SC:=bG Tryz.f157
noncomputable def uZ:Nat → Code:=lpOf Tryz.f157
theorem YQ:aL (a7 Tryz.f157) = true:=kr
theorem aLu:aA env L (n + 1) 157 args h = aE env (aA env L n) L h.length [] Bz39 uZ aCj (args ++ List.replicate (Tryz.f157.ntmps - args.length) (.d .undef)) h (kFin env.P h.length false [.tmp 4]) :=
 bB (mode:=2) kr Tryz.func157 kr kr YQ kr kr
noncomputable def HU:SC:=bO Tryz.f157 0
theorem MC:aJ env call L nf thaw live (uZ 0) m (n + 1) s h k = aE env call L nf thaw live uZ HU s h (bL env call L nf thaw live (uZ 0) m n k) :=
 aK YQ kr
noncomputable def aGx:SC:=bG Tryz.f158
noncomputable def lF:Nat → Code:=lpOf Tryz.f158
theorem S4:aL (a7 Tryz.f158) = true:=kr
theorem aN3:aA env L (n + 1) 158 args h = aE env (aA env L n) L h.length [] Bz16 lF aGx (args ++ List.replicate (Tryz.f158.ntmps - args.length) (.d .undef)) h (kFin env.P h.length false []) :=
 bB (mode:=0) kr Tryz.func158 kr kr S4 kr kr
noncomputable def FA:SC:=bO Tryz.f158 0
theorem EC:aJ env call L nf thaw live (lF 0) m (n + 1) s h k = aE env call L nf thaw live lF FA s h (bL env call L nf thaw live (lF 0) m n k) :=
 aK S4 kr
noncomputable def xR:SC:=bO Tryz.f158 1
theorem wE:aJ env call L nf thaw live (lF 1) m (n + 1) s h k = aE env call L nf thaw live lF xR s h (bL env call L nf thaw live (lF 1) m n k) :=
 aK S4 kr
noncomputable def aBL:SC:=bG Tryz.f159
noncomputable def u1:Nat → Code:=lpOf Tryz.f159
theorem YE:aL (a7 Tryz.f159) = true:=kr
theorem aLi:aA env L (n + 1) 159 args h = aE env (aA env L n) L h.length [] Bz49 u1 aBL (args ++ List.replicate (Tryz.f159.ntmps - args.length) (.d .undef)) h (kFin env.P h.length false [.tmp 4]) :=
 bB (mode:=1) kr Tryz.func159 kr kr YE kr kr
noncomputable def H9:SC:=bO Tryz.f159 0
theorem LM:aJ env call L nf thaw live (u1 0) m (n + 1) s h k = aE env call L nf thaw live u1 H9 s h (bL env call L nf thaw live (u1 0) m n k) :=
 aK YE kr
noncomputable def aBD:SC:=bG Tryz.f160
noncomputable def kH:Nat → Code:=lpOf Tryz.f160
theorem KU:aL (a7 Tryz.f160) = true:=kr
theorem aLs:aA env L (n + 1) 160 args h = aE env (aA env L n) L h.length [] Bz18 kH aBD (args ++ List.replicate (Tryz.f160.ntmps - args.length) (.d .undef)) h (kFin env.P h.length false [.tmp 10]) :=
 bB (mode:=2) kr Tryz.func160 kr kr KU kr kr
noncomputable def HY:SC:=bO Tryz.f160 0
theorem MF:aJ env call L nf thaw live (kH 0) m (n + 1) s h k = aE env call L nf thaw live kH HY s h (bL env call L nf thaw live (kH 0) m n k) :=
 aK KU kr
noncomputable def tG:SC:=bO Tryz.f160 1
theorem rU:aJ env call L nf thaw live (kH 1) m (n + 1) s h k = aE env call L nf thaw live kH tG s h (bL env call L nf thaw live (kH 1) m n k) :=
 aK KU kr
noncomputable def A7:SC:=bG Tryz.f161
noncomputable def tH:Nat → Code:=lpOf Tryz.f161
theorem UQ:aL (a7 Tryz.f161) = true:=kr
theorem ID:aA env L (n + 1) 161 args h = aE env (aA env L n) L h.length [] Bz50 tH A7 (args ++ List.replicate (Tryz.f161.ntmps - args.length) (.d .undef)) h (kFin env.P h.length false [.tmp 2]) :=
 bB (mode:=1) kr Tryz.func161 kr kr UQ kr kr
noncomputable def qK:SC:=bO Tryz.f161 0
theorem qB:aJ env call L nf thaw live (tH 0) m (n + 1) s h k = aE env call L nf thaw live tH qK s h (bL env call L nf thaw live (tH 0) m n k) :=
 aK UQ kr
noncomputable def aEG:SC:=bG Tryz.f163
noncomputable def aU2:Nat → Code:=lpOf Tryz.f163
theorem aSS:aL (a7 Tryz.f163) = true:=kr
theorem aKO:aA env L (n + 1) 163 args h = aE env (aA env L n) L h.length [] ([]) aU2 aEG (args ++ List.replicate (Tryz.f163.ntmps - args.length) (.d .undef)) h (kFin env.P h.length false [.tmp 6]) :=
 bB (mode:=1) kr Tryz.func163 kr kr aSS kr kr
noncomputable def aNe:SC:=bG Tryz.f164
noncomputable def aT0:Nat → Code:=lpOf Tryz.f164
theorem aSH:aL (a7 Tryz.f164) = true:=kr
theorem aUR:aA env L (n + 1) 164 args h = aE env (aA env L n) L h.length [] ([]) aT0 aNe (args ++ List.replicate (Tryz.f164.ntmps - args.length) (.d .undef)) h (kFin env.P h.length false [.tmp 4]) :=
 bB (mode:=1) kr Tryz.func164 kr kr aSH kr kr
noncomputable def uY:SC:=bG Tryz.f174
noncomputable def fC:Nat → Code:=lpOf Tryz.f174
theorem tL:aL (a7 Tryz.f174) = true:=kr
theorem JU:aA env L (n + 1) 174 args h = aE env (aA env L n) L h.length [] Bz34 fC uY (args ++ List.replicate (Tryz.f174.ntmps - args.length) (.d .undef)) h (kFin env.P h.length false []) :=
 bB (mode:=0) kr Tryz.func174 kr kr tL kr kr
noncomputable def jR:SC:=bO Tryz.f174 0
theorem k8:aJ env call L nf thaw live (fC 0) m (n + 1) s h k = aE env call L nf thaw live fC jR s h (bL env call L nf thaw live (fC 0) m n k) :=
 aK tL kr
noncomputable def aDK:SC:=bG Tryz.f175
noncomputable def gJ:Nat → Code:=lpOf Tryz.f175
theorem DO:aL (a7 Tryz.f175) = true:=kr
theorem aMu:aA env L (n + 1) 175 args h = aE env (aA env L n) L h.length [] Bz5 gJ aDK (args ++ List.replicate (Tryz.f175.ntmps - args.length) (.d .undef)) h (kFin env.P h.length false [.tmp 8]) :=
 bB (mode:=2) kr Tryz.func175 kr kr DO kr kr
noncomputable def LF:SC:=bO Tryz.f175 0
theorem P7:aJ env call L nf thaw live (gJ 0) m (n + 1) s h k = aE env call L nf thaw live gJ LF s h (bL env call L nf thaw live (gJ 0) m n k) :=
 aK DO kr
noncomputable def LD:SC:=bO Tryz.f175 1
theorem OZ:aJ env call L nf thaw live (gJ 1) m (n + 1) s h k = aE env call L nf thaw live gJ LD s h (bL env call L nf thaw live (gJ 1) m n k) :=
 aK DO kr
noncomputable def K4:SC:=bO Tryz.f175 2
theorem PX:aJ env call L nf thaw live (gJ 2) m (n + 1) s h k = aE env call L nf thaw live gJ K4 s h (bL env call L nf thaw live (gJ 2) m n k) :=
 aK DO kr
noncomputable def aMn:SC:=bG Tryz.f176
noncomputable def aUN:Nat → Code:=lpOf Tryz.f176
theorem aRj:aL (a7 Tryz.f176) = true:=kr
theorem aQ4:aA env L (n + 1) 176 args h = aE env (aA env L n) L h.length [] ([]) aUN aMn (args ++ List.replicate (Tryz.f176.ntmps - args.length) (.d .undef)) h (kFin env.P h.length false [.tmp 6]) :=
 bB (mode:=1) kr Tryz.func176 kr kr aRj kr kr
noncomputable def W0:SC:=bG Tryz.f177
noncomputable def nO:Nat → Code:=lpOf Tryz.f177
theorem S5:aL (a7 Tryz.f177) = true:=kr
theorem aD5:aA env L (n + 1) 177 args h = aE env (aA env L n) L h.length [] Bz15 nO W0 (args ++ List.replicate (Tryz.f177.ntmps - args.length) (.d .undef)) h (kFin env.P h.length false [.tmp 6]) :=
 bB (mode:=1) kr Tryz.func177 kr kr S5 kr kr
noncomputable def D1:SC:=bO Tryz.f177 0
theorem EP:aJ env call L nf thaw live (nO 0) m (n + 1) s h k = aE env call L nf thaw live nO D1 s h (bL env call L nf thaw live (nO 0) m n k) :=
 aK S5 kr
noncomputable def DS:SC:=bO Tryz.f177 1
theorem FW:aJ env call L nf thaw live (nO 1) m (n + 1) s h k = aE env call L nf thaw live nO DS s h (bL env call L nf thaw live (nO 1) m n k) :=
 aK S5 kr
noncomputable def aDY:SC:=bG Tryz.f179
noncomputable def xG:Nat → Code:=lpOf Tryz.f179
theorem aBV:aL (a7 Tryz.f179) = true:=kr
theorem aNf:aA env L (n + 1) 179 args h = aE env (aA env L n) L h.length [] Bz44 xG aDY (args ++ List.replicate (Tryz.f179.ntmps - args.length) (.d .undef)) h (kFin env.P h.length false [.tmp 4]) :=
 bB (mode:=1) kr Tryz.func179 kr kr aBV kr kr
noncomputable def BC:SC:=bO Tryz.f179 0
theorem BG:aJ env call L nf thaw live (xG 0) m (n + 1) s h k = aE env call L nf thaw live xG BC s h (bL env call L nf thaw live (xG 0) m n k) :=
 aK aBV kr
noncomputable def Y0:SC:=bG Tryz.f182
noncomputable def aH4:Nat → Code:=lpOf Tryz.f182
theorem aIM:aL (a7 Tryz.f182) = true:=kr
theorem aIW:aA env L (n + 1) 182 args h = aE env (aA env L n) L h.length [] (Z2 (U2 (Z4 (U4 (Z32 (Z32 (Z2 (Z1 ([]))))))))) aH4 Y0 (args ++ List.replicate (Tryz.f182.ntmps - args.length) (.d .undef)) h (kFin env.P h.length false [.tmp 8]) :=
 bB (mode:=2) kr Tryz.func182 kr kr aIM kr kr
end
end Ev
end Go.Proofs.YtejmccgfigiadaaGreat
