/-
  Each function's code as an equation. Written by a program.
-/
import Derived.Test.YtejmccgfigiadaaGreatEnv
set_option maxRecDepth 100000
namespace Go.Proofs.YtejmccgfigiadaaGreat
namespace Ev
section
variable {R:Type} {call:b7} {L nf n:Nat} {thaw:List Nat} {live m:List Bool} {s args:List A} {h:H} {k:KE R}
noncomputable def pL:SC:=bB Tryz.f4
noncomputable def XS:Nat → Code:=lpOf Tryz.f4
theorem XF:aL (aX Tryz.f4) = true:=kr
theorem tG:aA env L (n + 1) 4 args h = aD env (aA env L n) L h.length [] ([]) XS pL (args ++ List.replicate (Tryz.f4.ntmps - args.length) (.d .undef)) h (kFin env.P h.length false [.tmp 6]) :=
 aY (mode:=1) kr Tryz.func4 kr kr XF kr kr
noncomputable def DF:SC:=bB Tryz.f12
noncomputable def aKl:Nat → Code:=lpOf Tryz.f12
theorem aKn:aL (aX Tryz.f12) = true:=kr
theorem LJ:aA env L (n + 1) 12 args h = aD env (aA env L n) L h.length [] ([]) aKl DF (args ++ List.replicate (Tryz.f12.ntmps - args.length) (.d .undef)) h (kFin env.P h.length false [.tmp 4]) :=
 aY (mode:=1) kr Tryz.func12 kr kr aKn kr kr
noncomputable def sB:SC:=bB Tryz.f13
noncomputable def eW:Nat → Code:=lpOf Tryz.f13
theorem AN:aL (aX Tryz.f13) = true:=kr
theorem uD:aA env L (n + 1) 13 args h = aD env (aA env L n) L h.length [] Bz8 eW sB (args ++ List.replicate (Tryz.f13.ntmps - args.length) (.d .undef)) h (kFin env.P h.length false [.tmp 4,.tmp 5]) :=
 aY (mode:=2) kr Tryz.func13 kr kr AN kr kr
noncomputable def yX:SC:=bL Tryz.f13 0
theorem z6:aF env call L nf thaw live (eW 0) m (n + 1) s h k = aD env call L nf thaw live eW yX s h (bK env call L nf thaw live (eW 0) m n k) :=
 aQ AN kr
noncomputable def yS:SC:=bL Tryz.f13 1
theorem zD:aF env call L nf thaw live (eW 1) m (n + 1) s h k = aD env call L nf thaw live eW yS s h (bK env call L nf thaw live (eW 1) m n k) :=
 aQ AN kr
noncomputable def yK:SC:=bL Tryz.f13 2
theorem zO:aF env call L nf thaw live (eW 2) m (n + 1) s h k = aD env call L nf thaw live eW yK s h (bK env call L nf thaw live (eW 2) m n k) :=
 aQ AN kr
noncomputable def aBD:SC:=bB Tryz.f14
noncomputable def aKD:Nat → Code:=lpOf Tryz.f14
theorem aKJ:aL (aX Tryz.f14) = true:=kr
theorem aJ9:aA env L (n + 1) 14 args h = aD env (aA env L n) L h.length [] ([]) aKD aBD (args ++ List.replicate (Tryz.f14.ntmps - args.length) (.d .undef)) h (kFin env.P h.length true Tryz.f14.results.toList) :=
 aY (mode:=2) kr Tryz.func14 kr kr aKJ kr kr
noncomputable def sC:SC:=bB Tryz.f15
noncomputable def eX:Nat → Code:=lpOf Tryz.f15
theorem BA:aL (aX Tryz.f15) = true:=kr
theorem vF:aA env L (n + 1) 15 args h = aD env (aA env L n) L h.length [] Bz1 eX sC (args ++ List.replicate (Tryz.f15.ntmps - args.length) (.d .undef)) h (kFin env.P h.length true [.tmp 4,.tmp 5]) :=
 aY (mode:=3) kr Tryz.func15 kr kr BA kr kr
noncomputable def yO:SC:=bL Tryz.f15 0
theorem zE:aF env call L nf thaw live (eX 0) m (n + 1) s h k = aD env call L nf thaw live eX yO s h (bK env call L nf thaw live (eX 0) m n k) :=
 aQ BA kr
noncomputable def yW:SC:=bL Tryz.f15 1
theorem zP:aF env call L nf thaw live (eX 1) m (n + 1) s h k = aD env call L nf thaw live eX yW s h (bK env call L nf thaw live (eX 1) m n k) :=
 aQ BA kr
noncomputable def FT:SC:=bL Tryz.f15 2
theorem MI:aF env call L nf thaw live (eX 2) m (n + 1) s h k = aD env call L nf thaw live eX FT s h (bK env call L nf thaw live (eX 2) m n k) :=
 aQ BA kr
noncomputable def aBv:SC:=bB Tryz.f17
noncomputable def aKt:Nat → Code:=lpOf Tryz.f17
theorem aKe:aL (aX Tryz.f17) = true:=kr
theorem aJ3:aA env L (n + 1) 17 args h = aD env (aA env L n) L h.length [] ([]) aKt aBv (args ++ List.replicate (Tryz.f17.ntmps - args.length) (.d .undef)) h (kFin env.P h.length false [.tmp 4]) :=
 aY (mode:=1) kr Tryz.func17 kr kr aKe kr kr
noncomputable def rI:SC:=bB Tryz.f21
noncomputable def pY:Nat → Code:=lpOf Tryz.f21
theorem O2:aL (aX Tryz.f21) = true:=kr
theorem tY:aA env L (n + 1) 21 args h = aD env (aA env L n) L h.length [] Bz22 pY rI (args ++ List.replicate (Tryz.f21.ntmps - args.length) (.d .undef)) h (kFin env.P h.length false [.tmp 6,.tmp 7]) :=
 aY (mode:=1) kr Tryz.func21 kr kr O2 kr kr
noncomputable def sY:SC:=bL Tryz.f21 0
theorem uU:aF env call L nf thaw live (pY 0) m (n + 1) s h k = aD env call L nf thaw live pY sY s h (bK env call L nf thaw live (pY 0) m n k) :=
 aQ O2 kr
noncomputable def rJ:SC:=bB Tryz.f22
noncomputable def p8:Nat → Code:=lpOf Tryz.f22
theorem PT:aL (aX Tryz.f22) = true:=kr
theorem tX:aA env L (n + 1) 22 args h = aD env (aA env L n) L h.length [] Bz23 p8 rJ (args ++ List.replicate (Tryz.f22.ntmps - args.length) (.d .undef)) h (kFin env.P h.length false [.tmp 6,.tmp 7]) :=
 aY (mode:=1) kr Tryz.func22 kr kr PT kr kr
noncomputable def sF:SC:=bL Tryz.f22 0
theorem uL:aF env call L nf thaw live (p8 0) m (n + 1) s h k = aD env call L nf thaw live p8 sF s h (bK env call L nf thaw live (p8 0) m n k) :=
 aQ PT kr
noncomputable def t6:SC:=bB Tryz.f28
noncomputable def sH:Nat → Code:=lpOf Tryz.f28
theorem WF:aL (aX Tryz.f28) = true:=kr
theorem yL:aA env L (n + 1) 28 args h = aD env (aA env L n) L h.length [] Bz36 sH t6 (args ++ List.replicate (Tryz.f28.ntmps - args.length) (.d .undef)) h (kFin env.P h.length false [.tmp 4]) :=
 aY (mode:=1) kr Tryz.func28 kr kr WF kr kr
noncomputable def wD:SC:=bL Tryz.f28 0
theorem x5:aF env call L nf thaw live (sH 0) m (n + 1) s h k = aD env call L nf thaw live sH wD s h (bK env call L nf thaw live (sH 0) m n k) :=
 aQ WF kr
noncomputable def YZ:SC:=bB Tryz.f30
noncomputable def s5:Nat → Code:=lpOf Tryz.f30
theorem UZ:aL (aX Tryz.f30) = true:=kr
theorem aJm:aA env L (n + 1) 30 args h = aD env (aA env L n) L h.length [0,0,0,2] Bz39 s5 YZ (args ++ List.replicate (Tryz.f30.ntmps - args.length) (.d .undef)) h (kFin env.P h.length true [.tmp 2]) :=
 aY (mode:=3) kr Tryz.func30 kr kr UZ kr kr
noncomputable def wI:SC:=bL Tryz.f30 0
theorem x6:aF env call L nf thaw live (s5 0) m (n + 1) s h k = aD env call L nf thaw live s5 wI s h (bK env call L nf thaw live (s5 0) m n k) :=
 aQ UZ kr
noncomputable def I4:SC:=bB Tryz.f31
noncomputable def eL:Nat → Code:=lpOf Tryz.f31
theorem vX:aL (aX Tryz.f31) = true:=kr
theorem aA4:aA env L (n + 1) 31 args h = aD env (aA env L n) L h.length [] Bz11 eL I4 (args ++ List.replicate (Tryz.f31.ntmps - args.length) (.d .undef)) h (kFin env.P h.length true [.tmp 2]) :=
 aY (mode:=3) kr Tryz.func31 kr kr vX kr kr
noncomputable def uP:SC:=bL Tryz.f31 0
theorem zV:aF env call L nf thaw live (eL 0) m (n + 1) s h k = aD env call L nf thaw live eL uP s h (bK env call L nf thaw live (eL 0) m n k) :=
 aQ vX kr
noncomputable def lW:SC:=bL Tryz.f31 1
theorem mH:aF env call L nf thaw live (eL 1) m (n + 1) s h k = aD env call L nf thaw live eL lW s h (bK env call L nf thaw live (eL 1) m n k) :=
 aQ vX kr
noncomputable def UJ:SC:=bB Tryz.f36
noncomputable def aHc:Nat → Code:=lpOf Tryz.f36
theorem aHa:aL (aX Tryz.f36) = true:=kr
theorem aHl:aA env L (n + 1) 36 args h = aD env (aA env L n) L h.length [] ([]) aHc UJ (args ++ List.replicate (Tryz.f36.ntmps - args.length) (.d .undef)) h (kFin env.P h.length false [.tmp 4]) :=
 aY (mode:=1) kr Tryz.func36 kr kr aHa kr kr
noncomputable def WV:SC:=bB Tryz.f39
noncomputable def G7:Nat → Code:=lpOf Tryz.f39
theorem aJJ:aL (aX Tryz.f39) = true:=kr
theorem aBj:aA env L (n + 1) 39 args h = aD env (aA env L n) L h.length [] Bz17 G7 WV (args ++ List.replicate (Tryz.f39.ntmps - args.length) (.d .undef)) h (kFin env.P h.length false [.tmp 4]) :=
 aY (mode:=1) kr Tryz.func39 kr kr aJJ kr kr
noncomputable def LQ:SC:=bL Tryz.f39 0
theorem KZ:aF env call L nf thaw live (G7 0) m (n + 1) s h k = aD env call L nf thaw live G7 LQ s h (bK env call L nf thaw live (G7 0) m n k) :=
 aQ aJJ kr
noncomputable def aEe:SC:=bB Tryz.f40
noncomputable def aRi:Nat → Code:=lpOf Tryz.f40
theorem aRp:aL (aX Tryz.f40) = true:=kr
theorem aJx:aA env L (n + 1) 40 args h = aD env (aA env L n) L h.length [] ([]) aRi aEe (args ++ List.replicate (Tryz.f40.ntmps - args.length) (.d .undef)) h (kFin env.P h.length false [.tmp 4]) :=
 aY (mode:=1) kr Tryz.func40 kr kr aRp kr kr
noncomputable def jO:SC:=bB Tryz.f41
noncomputable def nX:Nat → Code:=lpOf Tryz.f41
theorem JD:aL (aX Tryz.f41) = true:=kr
theorem lB:aA env L (n + 1) 41 args h = aD env (aA env L n) L h.length [] Bz46 nX jO (args ++ List.replicate (Tryz.f41.ntmps - args.length) (.d .undef)) h (kFin env.P h.length false [.tmp 2]) :=
 aY (mode:=1) kr Tryz.func41 kr kr JD kr kr
noncomputable def qF:SC:=bL Tryz.f41 0
theorem r8:aF env call L nf thaw live (nX 0) m (n + 1) s h k = aD env call L nf thaw live nX qF s h (bK env call L nf thaw live (nX 0) m n k) :=
 aQ JD kr
noncomputable def LK:SC:=bB Tryz.f42
noncomputable def sM:Nat → Code:=lpOf Tryz.f42
theorem UG:aL (aX Tryz.f42) = true:=kr
theorem VG:aA env L (n + 1) 42 args h = aD env (aA env L n) L h.length [] Bz54 sM LK (args ++ List.replicate (Tryz.f42.ntmps - args.length) (.d .undef)) h (kFin env.P h.length false [.tmp 2]) :=
 aY (mode:=2) kr Tryz.func42 kr kr UG kr kr
noncomputable def DW:SC:=bL Tryz.f42 0
theorem JK:aF env call L nf thaw live (sM 0) m (n + 1) s h k = aD env call L nf thaw live sM DW s h (bK env call L nf thaw live (sM 0) m n k) :=
 aQ UG kr
noncomputable def x8:SC:=bB Tryz.f43
noncomputable def eO:Nat → Code:=lpOf Tryz.f43
theorem w7:aL (aX Tryz.f43) = true:=kr
theorem F5:aA env L (n + 1) 43 args h = aD env (aA env L n) L h.length [] Bz30 eO x8 (args ++ List.replicate (Tryz.f43.ntmps - args.length) (.d .undef)) h (kFin env.P h.length false [.tmp 2]) :=
 aY (mode:=2) kr Tryz.func43 kr kr w7 kr kr
noncomputable def u4:SC:=bL Tryz.f43 0
theorem y4:aF env call L nf thaw live (eO 0) m (n + 1) s h k = aD env call L nf thaw live eO u4 s h (bK env call L nf thaw live (eO 0) m n k) :=
 aQ w7 kr
noncomputable def lV:SC:=bL Tryz.f43 1
theorem m2:aF env call L nf thaw live (eO 1) m (n + 1) s h k = aD env call L nf thaw live eO lV s h (bK env call L nf thaw live (eO 1) m n k) :=
 aQ w7 kr
noncomputable def aBS:SC:=bB Tryz.f44
noncomputable def iN:Nat → Code:=lpOf Tryz.f44
theorem KI:aL (aX Tryz.f44) = true:=kr
theorem aKh:aA env L (n + 1) 44 args h = aD env (aA env L n) L h.length [] Bz9 iN aBS (args ++ List.replicate (Tryz.f44.ntmps - args.length) (.d .undef)) h (kFin env.P h.length false [.tmp 4]) :=
 aY (mode:=2) kr Tryz.func44 kr kr KI kr kr
noncomputable def y1:SC:=bL Tryz.f44 0
theorem zI:aF env call L nf thaw live (iN 0) m (n + 1) s h k = aD env call L nf thaw live iN y1 s h (bK env call L nf thaw live (iN 0) m n k) :=
 aQ KI kr
noncomputable def HV:SC:=bL Tryz.f44 1
theorem NP:aF env call L nf thaw live (iN 1) m (n + 1) s h k = aD env call L nf thaw live iN HV s h (bK env call L nf thaw live (iN 1) m n k) :=
 aQ KI kr
noncomputable def P8:SC:=bB Tryz.f45
noncomputable def CN:Nat → Code:=lpOf Tryz.f45
theorem aFZ:aL (aX Tryz.f45) = true:=kr
theorem WZ:aA env L (n + 1) 45 args h = aD env (aA env L n) L h.length [] Bz47 CN P8 (args ++ List.replicate (Tryz.f45.ntmps - args.length) (.d .undef)) h (kFin env.P h.length false [.tmp 4]) :=
 aY (mode:=0) kr Tryz.func45 kr kr aFZ kr kr
noncomputable def RL:SC:=bL Tryz.f45 0
theorem V4:aF env call L nf thaw live (CN 0) m (n + 1) s h k = aD env call L nf thaw live CN RL s h (bK env call L nf thaw live (CN 0) m n k) :=
 aQ aFZ kr
noncomputable def aMf:SC:=bB Tryz.f46
noncomputable def AK:Nat → Code:=lpOf Tryz.f46
theorem aIo:aL (aX Tryz.f46) = true:=kr
theorem aRJ:aA env L (n + 1) 46 args h = aD env (aA env L n) L h.length (W4 (W2 (W1 [1002]))) Bz31 AK aMf (args ++ List.replicate (Tryz.f46.ntmps - args.length) (.d .undef)) h (kFin env.P h.length true [.tmp 2]) :=
 aY (mode:=2) kr Tryz.func46 kr kr aIo kr kr
noncomputable def W3:SC:=bL Tryz.f46 0
theorem aAb:aF env call L nf thaw live (AK 0) m (n + 1) s h k = aD env call L nf thaw live AK W3 s h (bK env call L nf thaw live (AK 0) m n k) :=
 aQ aIo kr
noncomputable def aMC:SC:=bB Tryz.f47
noncomputable def HJ:Nat → Code:=lpOf Tryz.f47
theorem aHL:aL (aX Tryz.f47) = true:=kr
theorem aR3:aA env L (n + 1) 47 args h = aD env (aA env L n) L h.length [] Bz18 HJ aMC (args ++ List.replicate (Tryz.f47.ntmps - args.length) (.d .undef)) h (kFin env.P h.length true [.tmp 2]) :=
 aY (mode:=2) kr Tryz.func47 kr kr aHL kr kr
noncomputable def W0:SC:=bL Tryz.f47 0
theorem ZS:aF env call L nf thaw live (HJ 0) m (n + 1) s h k = aD env call L nf thaw live HJ W0 s h (bK env call L nf thaw live (HJ 0) m n k) :=
 aQ aHL kr
noncomputable def kA:SC:=bB Tryz.f48
noncomputable def fC:Nat → Code:=lpOf Tryz.f48
theorem yA:aL (aX Tryz.f48) = true:=kr
theorem k8:aA env L (n + 1) 48 args h = aD env (aA env L n) L h.length [] Bz6 fC kA (args ++ List.replicate (Tryz.f48.ntmps - args.length) (.d .undef)) h (kFin env.P h.length false [.tmp 2]) :=
 aY (mode:=1) kr Tryz.func48 kr kr yA kr kr
noncomputable def mZ:SC:=bL Tryz.f48 0
theorem nQ:aF env call L nf thaw live (fC 0) m (n + 1) s h k = aD env call L nf thaw live fC mZ s h (bK env call L nf thaw live (fC 0) m n k) :=
 aQ yA kr
noncomputable def mG:SC:=bL Tryz.f48 1
theorem nO:aF env call L nf thaw live (fC 1) m (n + 1) s h k = aD env call L nf thaw live fC mG s h (bK env call L nf thaw live (fC 1) m n k) :=
 aQ yA kr
noncomputable def aB8:SC:=bB Tryz.f49
noncomputable def eY:Nat → Code:=lpOf Tryz.f49
theorem AY:aL (aX Tryz.f49) = true:=kr
theorem aKj:aA env L (n + 1) 49 args h = aD env (aA env L n) L h.length (W8 (W4 [2002])) Bz4 eY aB8 (args ++ List.replicate (Tryz.f49.ntmps - args.length) (.d .undef)) h (kFin env.P h.length false [.tmp 4]) :=
 aY (mode:=2) kr Tryz.func49 kr kr AY kr kr
noncomputable def GN:SC:=bL Tryz.f49 0
theorem NH:aF env call L nf thaw live (eY 0) m (n + 1) s h k = aD env call L nf thaw live eY GN s h (bK env call L nf thaw live (eY 0) m n k) :=
 aQ AY kr
noncomputable def FX:SC:=bL Tryz.f49 1
theorem NU:aF env call L nf thaw live (eY 1) m (n + 1) s h k = aD env call L nf thaw live eY FX s h (bK env call L nf thaw live (eY 1) m n k) :=
 aQ AY kr
noncomputable def GW:SC:=bL Tryz.f49 2
theorem MT:aF env call L nf thaw live (eY 2) m (n + 1) s h k = aD env call L nf thaw live eY GW s h (bK env call L nf thaw live (eY 2) m n k) :=
 aQ AY kr
theorem IS {L n:Nat} {args:List A} {h:H}:aA env L (n + 1) 50 args h = KP 94 52 args h:=by
 have:env.prim 50 = some (KP 94 52):=kr
 simp only [aA,this]
noncomputable def nE:SC:=bB Tryz.f51
noncomputable def vV:Nat → Code:=lpOf Tryz.f51
theorem wG:aL (aX Tryz.f51) = true:=kr
theorem vW:aA env L (n + 1) 51 args h = aD env (aA env L n) L h.length [] ([]) vV nE (args ++ List.replicate (Tryz.f51.ntmps - args.length) (.d .undef)) h (kFin env.P h.length true [.tmp 2]) :=
 aY (mode:=0) kr Tryz.func51 kr kr wG kr kr
noncomputable def II:SC:=bB Tryz.f52
noncomputable def aCc:Nat → Code:=lpOf Tryz.f52
theorem aCg:aL (aX Tryz.f52) = true:=kr
theorem aMS:aA env L (n + 1) 52 args h = aD env (aA env L n) L h.length [] ([]) aCc II (args ++ List.replicate (Tryz.f52.ntmps - args.length) (.d .undef)) h (kFin env.P h.length false [.tmp 4]) :=
 aY (mode:=1) kr Tryz.func52 kr kr aCg kr kr
noncomputable def aLJ:SC:=bB Tryz.f53
noncomputable def IH:Nat → Code:=lpOf Tryz.f53
theorem aIH:aL (aX Tryz.f53) = true:=kr
theorem aSd:aA env L (n + 1) 53 args h = aD env (aA env L n) L h.length [] Bz17 IH aLJ (args ++ List.replicate (Tryz.f53.ntmps - args.length) (.d .undef)) h (kFin env.P h.length false [.tmp 4]) :=
 aY (mode:=1) kr Tryz.func53 kr kr aIH kr kr
noncomputable def W6:SC:=bL Tryz.f53 0
theorem YN:aF env call L nf thaw live (IH 0) m (n + 1) s h k = aD env call L nf thaw live IH W6 s h (bK env call L nf thaw live (IH 0) m n k) :=
 aQ aIH kr
noncomputable def aK7:SC:=bB Tryz.f54
noncomputable def H9:Nat → Code:=lpOf Tryz.f54
theorem aI9:aL (aX Tryz.f54) = true:=kr
theorem aR7:aA env L (n + 1) 54 args h = aD env (aA env L n) L h.length [] Bz24 H9 aK7 (args ++ List.replicate (Tryz.f54.ntmps - args.length) (.d .undef)) h (kFin env.P h.length false [.tmp 4]) :=
 aY (mode:=1) kr Tryz.func54 kr kr aI9 kr kr
noncomputable def XO:SC:=bL Tryz.f54 0
theorem Y6:aF env call L nf thaw live (H9 0) m (n + 1) s h k = aD env call L nf thaw live H9 XO s h (bK env call L nf thaw live (H9 0) m n k) :=
 aQ aI9 kr
noncomputable def V6:SC:=bB Tryz.f58
noncomputable def aR2:Nat → Code:=lpOf Tryz.f58
theorem aSn:aL (aX Tryz.f58) = true:=kr
theorem aAi:aA env L (n + 1) 58 args h = aD env (aA env L n) L h.length [] ([]) aR2 V6 (args ++ List.replicate (Tryz.f58.ntmps - args.length) (.d .undef)) h (kFin env.P h.length false [.tmp 4]) :=
 aY (mode:=1) kr Tryz.func58 kr kr aSn kr kr
noncomputable def VZ:SC:=bB Tryz.f59
noncomputable def aGQ:Nat → Code:=lpOf Tryz.f59
theorem aHo:aL (aX Tryz.f59) = true:=kr
theorem aHs:aA env L (n + 1) 59 args h = aD env (aA env L n) L h.length [] ([]) aGQ VZ (args ++ List.replicate (Tryz.f59.ntmps - args.length) (.d .undef)) h (kFin env.P h.length false [.tmp 4]) :=
 aY (mode:=1) kr Tryz.func59 kr kr aHo kr kr
noncomputable def yR:SC:=bB Tryz.f60
noncomputable def aHj:Nat → Code:=lpOf Tryz.f60
theorem aGF:aL (aX Tryz.f60) = true:=kr
theorem EG:aA env L (n + 1) 60 args h = aD env (aA env L n) L h.length [] ([]) aHj yR (args ++ List.replicate (Tryz.f60.ntmps - args.length) (.d .undef)) h (kFin env.P h.length false [.tmp 4]) :=
 aY (mode:=1) kr Tryz.func60 kr kr aGF kr kr
noncomputable def aAg:SC:=bB Tryz.f64
noncomputable def aHJ:Nat → Code:=lpOf Tryz.f64
theorem aI1:aL (aX Tryz.f64) = true:=kr
theorem aIw:aA env L (n + 1) 64 args h = aD env (aA env L n) L h.length [] ([]) aHJ aAg (args ++ List.replicate (Tryz.f64.ntmps - args.length) (.d .undef)) h (kFin env.P h.length false [.tmp 2]) :=
 aY (mode:=1) kr Tryz.func64 kr kr aI1 kr kr
noncomputable def aQJ:SC:=bB Tryz.f65
noncomputable def aXt:Nat → Code:=lpOf Tryz.f65
theorem aXu:aL (aX Tryz.f65) = true:=kr
theorem aXD:aA env L (n + 1) 65 args h = aD env (aA env L n) L h.length [] ([]) aXt aQJ (args ++ List.replicate (Tryz.f65.ntmps - args.length) (.d .undef)) h (kFin env.P h.length false [.tmp 4]) :=
 aY (mode:=1) kr Tryz.func65 kr kr aXu kr kr
noncomputable def aEv:SC:=bB Tryz.f66
noncomputable def aM7:Nat → Code:=lpOf Tryz.f66
theorem aMX:aL (aX Tryz.f66) = true:=kr
theorem aM0:aA env L (n + 1) 66 args h = aD env (aA env L n) L h.length [] ([]) aM7 aEv (args ++ List.replicate (Tryz.f66.ntmps - args.length) (.d .undef)) h (kFin env.P h.length false [.tmp 4]) :=
 aY (mode:=1) kr Tryz.func66 kr kr aMX kr kr
noncomputable def KL:SC:=bB Tryz.f68
noncomputable def aJh:Nat → Code:=lpOf Tryz.f68
theorem aIQ:aL (aX Tryz.f68) = true:=kr
theorem VL:aA env L (n + 1) 68 args h = aD env (aA env L n) L h.length [] ([]) aJh KL (args ++ List.replicate (Tryz.f68.ntmps - args.length) (.d .undef)) h (kFin env.P h.length false [.tmp 4,.tmp 5]) :=
 aY (mode:=1) kr Tryz.func68 kr kr aIQ kr kr
theorem BV {L n:Nat} {args:List A} {h:H}:aA env L (n + 1) 69 args h = SM 52 args h:=by
 have:env.prim 69 = some (SM 52):=kr
 simp only [aA,this]
noncomputable def mU:SC:=bB Tryz.f70
noncomputable def aGD:Nat → Code:=lpOf Tryz.f70
theorem aHn:aL (aX Tryz.f70) = true:=kr
theorem oD:aA env L (n + 1) 70 args h = aD env (aA env L n) L h.length [] ([]) aGD mU (args ++ List.replicate (Tryz.f70.ntmps - args.length) (.d .undef)) h (kFin env.P h.length false [.tmp 6,.tmp 7]) :=
 aY (mode:=1) kr Tryz.func70 kr kr aHn kr kr
noncomputable def r7:SC:=bB Tryz.f71
noncomputable def DZ:Nat → Code:=lpOf Tryz.f71
theorem D5:aL (aX Tryz.f71) = true:=kr
theorem EF:aA env L (n + 1) 71 args h = aD env (aA env L n) L h.length [] ([]) DZ r7 (args ++ List.replicate (Tryz.f71.ntmps - args.length) (.d .undef)) h (kFin env.P h.length false [.tmp 4]) :=
 aY (mode:=1) kr Tryz.func71 kr kr D5 kr kr
noncomputable def A6:SC:=bB Tryz.f76
noncomputable def sE:Nat → Code:=lpOf Tryz.f76
theorem WG:aL (aX Tryz.f76) = true:=kr
theorem FV:aA env L (n + 1) 76 args h = aD env (aA env L n) L h.length [] Bz26 sE A6 (args ++ List.replicate (Tryz.f76.ntmps - args.length) (.d .undef)) h (kFin env.P h.length false [.tmp 4]) :=
 aY (mode:=1) kr Tryz.func76 kr kr WG kr kr
noncomputable def D8:SC:=bL Tryz.f76 0
theorem IX:aF env call L nf thaw live (sE 0) m (n + 1) s h k = aD env call L nf thaw live sE D8 s h (bK env call L nf thaw live (sE 0) m n k) :=
 aQ WG kr
noncomputable def U6:SC:=bB Tryz.f77
noncomputable def aGL:Nat → Code:=lpOf Tryz.f77
theorem aG4:aL (aX Tryz.f77) = true:=kr
theorem aGy:aA env L (n + 1) 77 args h = aD env (aA env L n) L h.length [] ([]) aGL U6 (args ++ List.replicate (Tryz.f77.ntmps - args.length) (.d .undef)) h (kFin env.P h.length false [.tmp 10,.tmp 11]) :=
 aY (mode:=1) kr Tryz.func77 kr kr aG4 kr kr
noncomputable def aG3:SC:=bB Tryz.f80
noncomputable def aVY:Nat → Code:=lpOf Tryz.f80
theorem aSx:aL (aX Tryz.f80) = true:=kr
theorem aMJ:aA env L (n + 1) 80 args h = aD env (aA env L n) L h.length [] ([]) aVY aG3 (args ++ List.replicate (Tryz.f80.ntmps - args.length) (.d .undef)) h (kFin env.P h.length false [.tmp 4]) :=
 aY (mode:=1) kr Tryz.func80 kr kr aSx kr kr
noncomputable def ZI:SC:=bB Tryz.f81
noncomputable def aI8:Nat → Code:=lpOf Tryz.f81
theorem aH8:aL (aX Tryz.f81) = true:=kr
theorem aJw:aA env L (n + 1) 81 args h = aD env (aA env L n) L h.length [] ([]) aI8 ZI (args ++ List.replicate (Tryz.f81.ntmps - args.length) (.d .undef)) h (kFin env.P h.length false [.tmp 2]) :=
 aY (mode:=1) kr Tryz.func81 kr kr aH8 kr kr
noncomputable def VF:SC:=bB Tryz.f82
noncomputable def HR:Nat → Code:=lpOf Tryz.f82
theorem aIj:aL (aX Tryz.f82) = true:=kr
theorem aAV:aA env L (n + 1) 82 args h = aD env (aA env L n) L h.length [] Bz29 HR VF (args ++ List.replicate (Tryz.f82.ntmps - args.length) (.d .undef)) h (kFin env.P h.length false [.tmp 6]) :=
 aY (mode:=1) kr Tryz.func82 kr kr aIj kr kr
noncomputable def B4:SC:=bL Tryz.f82 0
theorem A3:aF env call L nf thaw live (HR 0) m (n + 1) s h k = aD env call L nf thaw live HR B4 s h (bK env call L nf thaw live (HR 0) m n k) :=
 aQ aIj kr
noncomputable def aBB:SC:=bB Tryz.f83
noncomputable def uC:Nat → Code:=lpOf Tryz.f83
theorem Z0:aL (aX Tryz.f83) = true:=kr
theorem aKQ:aA env L (n + 1) 83 args h = aD env (aA env L n) L h.length [] Bz42 uC aBB (args ++ List.replicate (Tryz.f83.ntmps - args.length) (.d .undef)) h (kFin env.P h.length false [.tmp 2]) :=
 aY (mode:=2) kr Tryz.func83 kr kr Z0 kr kr
noncomputable def yP:SC:=bL Tryz.f83 0
theorem zC:aF env call L nf thaw live (uC 0) m (n + 1) s h k = aD env call L nf thaw live uC yP s h (bK env call L nf thaw live (uC 0) m n k) :=
 aQ Z0 kr
noncomputable def aIf:SC:=bB Tryz.f84
noncomputable def oP:Nat → Code:=lpOf Tryz.f84
theorem W9:aL (aX Tryz.f84) = true:=kr
theorem aPL:aA env L (n + 1) 84 args h = aD env (aA env L n) L h.length [] Bz15 oP aIf (args ++ List.replicate (Tryz.f84.ntmps - args.length) (.d .undef)) h (kFin env.P h.length false Tryz.f84.results.toList) :=
 aY (mode:=2) kr Tryz.func84 kr kr W9 kr kr
noncomputable def IM:SC:=bL Tryz.f84 0
theorem FW:aF env call L nf thaw live (oP 0) m (n + 1) s h k = aD env call L nf thaw live oP IM s h (bK env call L nf thaw live (oP 0) m n k) :=
 aQ W9 kr
noncomputable def TT:SC:=bL Tryz.f84 1
theorem UX:aF env call L nf thaw live (oP 1) m (n + 1) s h k = aD env call L nf thaw live oP TT s h (bK env call L nf thaw live (oP 1) m n k) :=
 aQ W9 kr
noncomputable def AO:SC:=bB Tryz.f85
noncomputable def aJf:Nat → Code:=lpOf Tryz.f85
theorem aIY:aL (aX Tryz.f85) = true:=kr
theorem HL:aA env L (n + 1) 85 args h = aD env (aA env L n) L h.length [] ([]) aJf AO (args ++ List.replicate (Tryz.f85.ntmps - args.length) (.d .undef)) h (kFin env.P h.length false [.tmp 4,.tmp 5]) :=
 aY (mode:=1) kr Tryz.func85 kr kr aIY kr kr
noncomputable def sN:SC:=bB Tryz.f86
noncomputable def aHh:Nat → Code:=lpOf Tryz.f86
theorem aGR:aL (aX Tryz.f86) = true:=kr
theorem vO:aA env L (n + 1) 86 args h = aD env (aA env L n) L h.length [] ([]) aHh sN (args ++ List.replicate (Tryz.f86.ntmps - args.length) (.d .undef)) h (kFin env.P h.length false [.tmp 6,.tmp 7]) :=
 aY (mode:=1) kr Tryz.func86 kr kr aGR kr kr
noncomputable def aC1:SC:=bB Tryz.f87
noncomputable def G1:Nat → Code:=lpOf Tryz.f87
theorem aIp:aL (aX Tryz.f87) = true:=kr
theorem aJP:aA env L (n + 1) 87 args h = aD env (aA env L n) L h.length [] Bz28 G1 aC1 (args ++ List.replicate (Tryz.f87.ntmps - args.length) (.d .undef)) h (kFin env.P h.length false [.tmp 4]) :=
 aY (mode:=1) kr Tryz.func87 kr kr aIp kr kr
noncomputable def L7:SC:=bL Tryz.f87 0
theorem KG:aF env call L nf thaw live (G1 0) m (n + 1) s h k = aD env call L nf thaw live G1 L7 s h (bK env call L nf thaw live (G1 0) m n k) :=
 aQ aIp kr
noncomputable def aIg:SC:=bB Tryz.f88
noncomputable def aPv:Nat → Code:=lpOf Tryz.f88
theorem aPJ:aL (aX Tryz.f88) = true:=kr
theorem aPT:aA env L (n + 1) 88 args h = aD env (aA env L n) L h.length [] ([]) aPv aIg (args ++ List.replicate (Tryz.f88.ntmps - args.length) (.d .undef)) h (kFin env.P h.length false [.tmp 2]) :=
 aY (mode:=1) kr Tryz.func88 kr kr aPJ kr kr
noncomputable def aCJ:SC:=bB Tryz.f89
noncomputable def xL:Nat → Code:=lpOf Tryz.f89
theorem aBt:aL (aX Tryz.f89) = true:=kr
theorem aMZ:aA env L (n + 1) 89 args h = aD env (aA env L n) L h.length [] Bz48 xL aCJ (args ++ List.replicate (Tryz.f89.ntmps - args.length) (.d .undef)) h (kFin env.P h.length false [.tmp 4]) :=
 aY (mode:=1) kr Tryz.func89 kr kr aBt kr kr
noncomputable def vE:SC:=bL Tryz.f89 0
theorem tV:aF env call L nf thaw live (xL 0) m (n + 1) s h k = aD env call L nf thaw live xL vE s h (bK env call L nf thaw live (xL 0) m n k) :=
 aQ aBt kr
noncomputable def aNV:SC:=bB Tryz.f90
noncomputable def NV:Nat → Code:=lpOf Tryz.f90
theorem aLR:aL (aX Tryz.f90) = true:=kr
theorem aTh:aA env L (n + 1) 90 args h = aD env (aA env L n) L h.length [] Bz18 NV aNV (args ++ List.replicate (Tryz.f90.ntmps - args.length) (.d .undef)) h (kFin env.P h.length true [.tmp 2]) :=
 aY (mode:=2) kr Tryz.func90 kr kr aLR kr kr
noncomputable def aA2:SC:=bL Tryz.f90 0
theorem aCe:aF env call L nf thaw live (NV 0) m (n + 1) s h k = aD env call L nf thaw live NV aA2 s h (bK env call L nf thaw live (NV 0) m n k) :=
 aQ aLR kr
noncomputable def aBM:SC:=bB Tryz.f91
noncomputable def qP:Nat → Code:=lpOf Tryz.f91
theorem ZO:aL (aX Tryz.f91) = true:=kr
theorem aKR:aA env L (n + 1) 91 args h = aD env (aA env L n) L h.length [0,0,0,2] Bz20 qP aBM (args ++ List.replicate (Tryz.f91.ntmps - args.length) (.d .undef)) h (kFin env.P h.length false [.tmp 2]) :=
 aY (mode:=2) kr Tryz.func91 kr kr ZO kr kr
noncomputable def yY:SC:=bL Tryz.f91 0
theorem AB:aF env call L nf thaw live (qP 0) m (n + 1) s h k = aD env call L nf thaw live qP yY s h (bK env call L nf thaw live (qP 0) m n k) :=
 aQ ZO kr
noncomputable def XZ:SC:=bB Tryz.f92
noncomputable def aIR:Nat → Code:=lpOf Tryz.f92
theorem aHT:aL (aX Tryz.f92) = true:=kr
theorem aJC:aA env L (n + 1) 92 args h = aD env (aA env L n) L h.length [] ([]) aIR XZ (args ++ List.replicate (Tryz.f92.ntmps - args.length) (.d .undef)) h (kFin env.P h.length false [.tmp 2]) :=
 aY (mode:=1) kr Tryz.func92 kr kr aHT kr kr
noncomputable def vD:SC:=bB Tryz.f95
noncomputable def kH:Nat → Code:=lpOf Tryz.f95
theorem C9:aL (aX Tryz.f95) = true:=kr
theorem aBI:aA env L (n + 1) 95 args h = aD env (aA env L n) L h.length [] Bz27 kH vD (args ++ List.replicate (Tryz.f95.ntmps - args.length) (.d .undef)) h (kFin env.P h.length false [.tmp 2]) :=
 aY (mode:=1) kr Tryz.func95 kr kr C9 kr kr
noncomputable def lU:SC:=bL Tryz.f95 0
theorem BT:aF env call L nf thaw live (kH 0) m (n + 1) s h k = aD env call L nf thaw live kH lU s h (bK env call L nf thaw live (kH 0) m n k) :=
 aQ C9 kr
noncomputable def iP:SC:=bB Tryz.f96
noncomputable def M2:Nat → Code:=lpOf Tryz.f96
theorem M0:aL (aX Tryz.f96) = true:=kr
theorem z7:aA env L (n + 1) 96 args h = aD env (aA env L n) L h.length [] ([]) M2 iP (args ++ List.replicate (Tryz.f96.ntmps - args.length) (.d .undef)) h (kFin env.P h.length false [.tmp 4]) :=
 aY (mode:=1) kr Tryz.func96 kr kr M0 kr kr
noncomputable def fM:SC:=bB Tryz.f97
noncomputable def FD:Nat → Code:=lpOf Tryz.f97
theorem ET:aL (aX Tryz.f97) = true:=kr
theorem uG:aA env L (n + 1) 97 args h = aD env (aA env L n) L h.length [] ([]) FD fM (args ++ List.replicate (Tryz.f97.ntmps - args.length) (.d .undef)) h (kFin env.P h.length false [.tmp 4]) :=
 aY (mode:=1) kr Tryz.func97 kr kr ET kr kr
noncomputable def aNH:SC:=bB Tryz.f98
noncomputable def MY:Nat → Code:=lpOf Tryz.f98
theorem aL3:aL (aX Tryz.f98) = true:=kr
theorem aVg:aA env L (n + 1) 98 args h = aD env (aA env L n) L h.length [] Bz24 MY aNH (args ++ List.replicate (Tryz.f98.ntmps - args.length) (.d .undef)) h (kFin env.P h.length false [.tmp 4]) :=
 aY (mode:=1) kr Tryz.func98 kr kr aL3 kr kr
noncomputable def aAx:SC:=bL Tryz.f98 0
theorem aBU:aF env call L nf thaw live (MY 0) m (n + 1) s h k = aD env call L nf thaw live MY aAx s h (bK env call L nf thaw live (MY 0) m n k) :=
 aQ aL3 kr
noncomputable def X0:SC:=bB Tryz.f100
noncomputable def aHX:Nat → Code:=lpOf Tryz.f100
theorem aJt:aL (aX Tryz.f100) = true:=kr
theorem aHE:aA env L (n + 1) 100 args h = aD env (aA env L n) L h.length [] ([]) aHX X0 (args ++ List.replicate (Tryz.f100.ntmps - args.length) (.d .undef)) h (kFin env.P h.length false [.tmp 4]) :=
 aY (mode:=1) kr Tryz.func100 kr kr aJt kr kr
noncomputable def aCd:SC:=bB Tryz.f105
noncomputable def aJ4:Nat → Code:=lpOf Tryz.f105
theorem aJ8:aL (aX Tryz.f105) = true:=kr
theorem aKk:aA env L (n + 1) 105 args h = aD env (aA env L n) L h.length [] ([]) aJ4 aCd (args ++ List.replicate (Tryz.f105.ntmps - args.length) (.d .undef)) h (kFin env.P h.length false [.tmp 4,.tmp 5]) :=
 aY (mode:=1) kr Tryz.func105 kr kr aJ8 kr kr
noncomputable def B0:SC:=bB Tryz.f106
noncomputable def aDD:Nat → Code:=lpOf Tryz.f106
theorem aDr:aL (aX Tryz.f106) = true:=kr
theorem MU:aA env L (n + 1) 106 args h = aD env (aA env L n) L h.length [] ([]) aDD B0 (args ++ List.replicate (Tryz.f106.ntmps - args.length) (.d .undef)) h (kFin env.P h.length false [.tmp 3]) :=
 aY (mode:=0) kr Tryz.func106 kr kr aDr kr kr
noncomputable def MP:SC:=bB Tryz.f109
noncomputable def aCo:Nat → Code:=lpOf Tryz.f109
theorem aCi:aL (aX Tryz.f109) = true:=kr
theorem aCx:aA env L (n + 1) 109 args h = aD env (aA env L n) L h.length [] ([]) aCo MP (args ++ List.replicate (Tryz.f109.ntmps - args.length) (.d .undef)) h (kFin env.P h.length false [.tmp 4]) :=
 aY (mode:=0) kr Tryz.func109 kr kr aCi kr kr
noncomputable def n9:SC:=bB Tryz.f110
noncomputable def fQ:Nat → Code:=lpOf Tryz.f110
theorem tL:aL (aX Tryz.f110) = true:=kr
theorem tJ:aA env L (n + 1) 110 args h = aD env (aA env L n) L h.length [] Bz43 fQ n9 (args ++ List.replicate (Tryz.f110.ntmps - args.length) (.d .undef)) h (kFin env.P h.length false [.tmp 4]) :=
 aY (mode:=1) kr Tryz.func110 kr kr tL kr kr
noncomputable def i7:SC:=bL Tryz.f110 0
theorem lD:aF env call L nf thaw live (fQ 0) m (n + 1) s h k = aD env call L nf thaw live fQ i7 s h (bK env call L nf thaw live (fQ 0) m n k) :=
 aQ tL kr
noncomputable def aFW:SC:=bB Tryz.f117
noncomputable def gM:Nat → Code:=lpOf Tryz.f117
theorem IQ:aL (aX Tryz.f117) = true:=kr
theorem aOy:aA env L (n + 1) 117 args h = aD env (aA env L n) L h.length [] Bz3 gM aFW (args ++ List.replicate (Tryz.f117.ntmps - args.length) (.d .undef)) h (kFin env.P h.length false [.tmp 2]) :=
 aY (mode:=2) kr Tryz.func117 kr kr IQ kr kr
noncomputable def N1:SC:=bL Tryz.f117 0
theorem TU:aF env call L nf thaw live (gM 0) m (n + 1) s h k = aD env call L nf thaw live gM N1 s h (bK env call L nf thaw live (gM 0) m n k) :=
 aQ IQ kr
noncomputable def N0:SC:=bL Tryz.f117 1
theorem SD:aF env call L nf thaw live (gM 1) m (n + 1) s h k = aD env call L nf thaw live gM N0 s h (bK env call L nf thaw live (gM 1) m n k) :=
 aQ IQ kr
noncomputable def OK:SC:=bL Tryz.f117 2
theorem Q8:aF env call L nf thaw live (gM 2) m (n + 1) s h k = aD env call L nf thaw live gM OK s h (bK env call L nf thaw live (gM 2) m n k) :=
 aQ IQ kr
noncomputable def MN:SC:=bB Tryz.f118
noncomputable def aCq:Nat → Code:=lpOf Tryz.f118
theorem aCr:aL (aX Tryz.f118) = true:=kr
theorem aCs:aA env L (n + 1) 118 args h = aD env (aA env L n) L h.length [] ([]) aCq MN (args ++ List.replicate (Tryz.f118.ntmps - args.length) (.d .undef)) h (kFin env.P h.length false [.tmp 9]) :=
 aY (mode:=0) kr Tryz.func118 kr kr aCr kr kr
noncomputable def DC:SC:=bB Tryz.f119
noncomputable def eU:Nat → Code:=lpOf Tryz.f119
theorem A5:aL (aX Tryz.f119) = true:=kr
theorem KY:aA env L (n + 1) 119 args h = aD env (aA env L n) L h.length (W16 (W2 [2])) Bz2 eU DC (args ++ List.replicate (Tryz.f119.ntmps - args.length) (.d .undef)) h (kFin env.P h.length false [.tmp 10,.tmp 11]) :=
 aY (mode:=1) kr Tryz.func119 kr kr A5 kr kr
noncomputable def sS:SC:=bL Tryz.f119 0
theorem sU:aF env call L nf thaw live (eU 0) m (n + 1) s h k = aD env call L nf thaw live eU sS s h (bK env call L nf thaw live (eU 0) m n k) :=
 aQ A5 kr
noncomputable def yJ:SC:=bL Tryz.f119 1
theorem AJ:aF env call L nf thaw live (eU 1) m (n + 1) s h k = aD env call L nf thaw live eU yJ s h (bK env call L nf thaw live (eU 1) m n k) :=
 aQ A5 kr
noncomputable def GP:SC:=bL Tryz.f119 2
theorem M9:aF env call L nf thaw live (eU 2) m (n + 1) s h k = aD env call L nf thaw live eU GP s h (bK env call L nf thaw live (eU 2) m n k) :=
 aQ A5 kr
noncomputable def MM:SC:=bB Tryz.f120
noncomputable def aCm:Nat → Code:=lpOf Tryz.f120
theorem aCj:aL (aX Tryz.f120) = true:=kr
theorem aCl:aA env L (n + 1) 120 args h = aD env (aA env L n) L h.length [] ([]) aCm MM (args ++ List.replicate (Tryz.f120.ntmps - args.length) (.d .undef)) h (kFin env.P h.length false [.tmp 6]) :=
 aY (mode:=0) kr Tryz.func120 kr kr aCj kr kr
noncomputable def aLM:SC:=bB Tryz.f123
noncomputable def aRv:Nat → Code:=lpOf Tryz.f123
theorem aRl:aL (aX Tryz.f123) = true:=kr
theorem aSm:aA env L (n + 1) 123 args h = aD env (aA env L n) L h.length [] ([]) aRv aLM (args ++ List.replicate (Tryz.f123.ntmps - args.length) (.d .undef)) h (kFin env.P h.length false [.tmp 4]) :=
 aY (mode:=1) kr Tryz.func123 kr kr aRl kr kr
noncomputable def aFC:SC:=bB Tryz.f124
noncomputable def lC:Nat → Code:=lpOf Tryz.f124
theorem RQ:aL (aX Tryz.f124) = true:=kr
theorem aPd:aA env L (n + 1) 124 args h = aD env (aA env L n) L h.length [] Bz25 lC aFC (args ++ List.replicate (Tryz.f124.ntmps - args.length) (.d .undef)) h (kFin env.P h.length false [.tmp 2]) :=
 aY (mode:=2) kr Tryz.func124 kr kr RQ kr kr
noncomputable def N4:SC:=bL Tryz.f124 0
theorem SI:aF env call L nf thaw live (lC 0) m (n + 1) s h k = aD env call L nf thaw live lC N4 s h (bK env call L nf thaw live (lC 0) m n k) :=
 aQ RQ kr
noncomputable def C5:SC:=bL Tryz.f124 1
theorem DS:aF env call L nf thaw live (lC 1) m (n + 1) s h k = aD env call L nf thaw live lC C5 s h (bK env call L nf thaw live (lC 1) m n k) :=
 aQ RQ kr
noncomputable def aFo:SC:=bB Tryz.f125
noncomputable def AH:Nat → Code:=lpOf Tryz.f125
theorem aDh:aL (aX Tryz.f125) = true:=kr
theorem aOt:aA env L (n + 1) 125 args h = aD env (aA env L n) L h.length [] Bz58 AH aFo (args ++ List.replicate (Tryz.f125.ntmps - args.length) (.d .undef)) h (kFin env.P h.length false [.tmp 4]) :=
 aY (mode:=1) kr Tryz.func125 kr kr aDh kr kr
noncomputable def N3:SC:=bL Tryz.f125 0
theorem RX:aF env call L nf thaw live (AH 0) m (n + 1) s h k = aD env call L nf thaw live AH N3 s h (bK env call L nf thaw live (AH 0) m n k) :=
 aQ aDh kr
noncomputable def LT:SC:=bB Tryz.f126
noncomputable def aNi:Nat → Code:=lpOf Tryz.f126
theorem aNp:aL (aX Tryz.f126) = true:=kr
theorem RO:aA env L (n + 1) 126 args h = aD env (aA env L n) L h.length [] ([]) aNi LT (args ++ List.replicate (Tryz.f126.ntmps - args.length) (.d .undef)) h (kFin env.P h.length false [.tmp 4]) :=
 aY (mode:=1) kr Tryz.func126 kr kr aNp kr kr
noncomputable def LU:SC:=bB Tryz.f127
noncomputable def dK:Nat → Code:=lpOf Tryz.f127
theorem y9:aL (aX Tryz.f127) = true:=kr
theorem R7:aA env L (n + 1) 127 args h = aD env (aA env L n) L h.length [] Bz0 dK LU (args ++ List.replicate (Tryz.f127.ntmps - args.length) (.d .undef)) h (kFin env.P h.length false [.tmp 2,.tmp 3]) :=
 aY (mode:=1) kr Tryz.func127 kr kr y9 kr kr
noncomputable def OF:SC:=bL Tryz.f127 0
theorem TD:aF env call L nf thaw live (dK 0) m (n + 1) s h k = aD env call L nf thaw live dK OF s h (bK env call L nf thaw live (dK 0) m n k) :=
 aQ y9 kr
noncomputable def C0:SC:=bL Tryz.f127 1
theorem D6:aF env call L nf thaw live (dK 1) m (n + 1) s h k = aD env call L nf thaw live dK C0 s h (bK env call L nf thaw live (dK 1) m n k) :=
 aQ y9 kr
noncomputable def w9:SC:=bL Tryz.f127 2
theorem wB:aF env call L nf thaw live (dK 2) m (n + 1) s h k = aD env call L nf thaw live dK w9 s h (bK env call L nf thaw live (dK 2) m n k) :=
 aQ y9 kr
noncomputable def xE:SC:=bL Tryz.f127 3
theorem wR:aF env call L nf thaw live (dK 3) m (n + 1) s h k = aD env call L nf thaw live dK xE s h (bK env call L nf thaw live (dK 3) m n k) :=
 aQ y9 kr
noncomputable def A8:SC:=bB Tryz.f128
noncomputable def aHC:Nat → Code:=lpOf Tryz.f128
theorem aJD:aL (aX Tryz.f128) = true:=kr
theorem GH:aA env L (n + 1) 128 args h = aD env (aA env L n) L h.length [] ([]) aHC A8 (args ++ List.replicate (Tryz.f128.ntmps - args.length) (.d .undef)) h (kFin env.P h.length false [.tmp 4]) :=
 aY (mode:=1) kr Tryz.func128 kr kr aJD kr kr
noncomputable def yU:SC:=bB Tryz.f130
noncomputable def SR:Nat → Code:=lpOf Tryz.f130
theorem SZ:aL (aX Tryz.f130) = true:=kr
theorem aGu:aA env L (n + 1) 130 args h = aD env (aA env L n) L h.length [] ([]) SR yU (args ++ List.replicate (Tryz.f130.ntmps - args.length) (.d .undef)) h (kFin env.P h.length false [.tmp 2]) :=
 aY (mode:=1) kr Tryz.func130 kr kr SZ kr kr
noncomputable def s6:SC:=bB Tryz.f131
noncomputable def JT:Nat → Code:=lpOf Tryz.f131
theorem J1:aL (aX Tryz.f131) = true:=kr
theorem aCp:aA env L (n + 1) 131 args h = aD env (aA env L n) L h.length [] ([]) JT s6 (args ++ List.replicate (Tryz.f131.ntmps - args.length) (.d .undef)) h (kFin env.P h.length false [.tmp 2]) :=
 aY (mode:=1) kr Tryz.func131 kr kr J1 kr kr
noncomputable def YY:SC:=bB Tryz.f132
noncomputable def aJM:Nat → Code:=lpOf Tryz.f132
theorem aIT:aL (aX Tryz.f132) = true:=kr
theorem aIO:aA env L (n + 1) 132 args h = aD env (aA env L n) L h.length [] ([]) aJM YY (args ++ List.replicate (Tryz.f132.ntmps - args.length) (.d .undef)) h (kFin env.P h.length false [.tmp 4]) :=
 aY (mode:=1) kr Tryz.func132 kr kr aIT kr kr
noncomputable def aKV:SC:=bB Tryz.f133
noncomputable def HQ:Nat → Code:=lpOf Tryz.f133
theorem aIJ:aL (aX Tryz.f133) = true:=kr
theorem aRH:aA env L (n + 1) 133 args h = aD env (aA env L n) L h.length [] Bz37 HQ aKV (args ++ List.replicate (Tryz.f133.ntmps - args.length) (.d .undef)) h (kFin env.P h.length false [.tmp 6]) :=
 aY (mode:=1) kr Tryz.func133 kr kr aIJ kr kr
noncomputable def XX:SC:=bL Tryz.f133 0
theorem ZM:aF env call L nf thaw live (HQ 0) m (n + 1) s h k = aD env call L nf thaw live HQ XX s h (bK env call L nf thaw live (HQ 0) m n k) :=
 aQ aIJ kr
noncomputable def SQ:SC:=bB Tryz.f134
noncomputable def aE7:Nat → Code:=lpOf Tryz.f134
theorem aFb:aL (aX Tryz.f134) = true:=kr
theorem aFd:aA env L (n + 1) 134 args h = aD env (aA env L n) L h.length [] ([]) aE7 SQ (args ++ List.replicate (Tryz.f134.ntmps - args.length) (.d .undef)) h (kFin env.P h.length false [.tmp 7]) :=
 aY (mode:=0) kr Tryz.func134 kr kr aFb kr kr
noncomputable def wA:SC:=bB Tryz.f151
noncomputable def m9:Nat → Code:=lpOf Tryz.f151
theorem PS:aL (aX Tryz.f151) = true:=kr
theorem BW:aA env L (n + 1) 151 args h = aD env (aA env L n) L h.length (W8 (W2 [2])) Bz7 m9 wA (args ++ List.replicate (Tryz.f151.ntmps - args.length) (.d .undef)) h (kFin env.P h.length false [.tmp 9]) :=
 aY (mode:=0) kr Tryz.func151 kr kr PS kr kr
noncomputable def d8:SC:=bL Tryz.f151 0
theorem dS:aF env call L nf thaw live (m9 0) m (n + 1) s h k = aD env call L nf thaw live m9 d8 s h (bK env call L nf thaw live (m9 0) m n k) :=
 aQ PS kr
noncomputable def aDd:SC:=bB Tryz.f152
noncomputable def xJ:Nat → Code:=lpOf Tryz.f152
theorem aBT:aL (aX Tryz.f152) = true:=kr
theorem aMV:aA env L (n + 1) 152 args h = aD env (aA env L n) L h.length [0,0,0,2] Bz33 xJ aDd (args ++ List.replicate (Tryz.f152.ntmps - args.length) (.d .undef)) h (kFin env.P h.length false [.tmp 2]) :=
 aY (mode:=1) kr Tryz.func152 kr kr aBT kr kr
noncomputable def KK:SC:=bL Tryz.f152 0
theorem OQ:aF env call L nf thaw live (xJ 0) m (n + 1) s h k = aD env call L nf thaw live xJ KK s h (bK env call L nf thaw live (xJ 0) m n k) :=
 aQ aBT kr
noncomputable def aGJ:SC:=bB Tryz.f153
noncomputable def MH:Nat → Code:=lpOf Tryz.f153
theorem aMN:aL (aX Tryz.f153) = true:=kr
theorem aK6:aA env L (n + 1) 153 args h = aD env (aA env L n) L h.length [] Bz28 MH aGJ (args ++ List.replicate (Tryz.f153.ntmps - args.length) (.d .undef)) h (kFin env.P h.length false [.tmp 4]) :=
 aY (mode:=1) kr Tryz.func153 kr kr aMN kr kr
noncomputable def QR:SC:=bL Tryz.f153 0
theorem OC:aF env call L nf thaw live (MH 0) m (n + 1) s h k = aD env call L nf thaw live MH QR s h (bK env call L nf thaw live (MH 0) m n k) :=
 aQ aMN kr
noncomputable def aGp:SC:=bB Tryz.f154
noncomputable def mO:Nat → Code:=lpOf Tryz.f154
theorem T3:aL (aX Tryz.f154) = true:=kr
theorem aOj:aA env L (n + 1) 154 args h = aD env (aA env L n) L h.length [] Bz32 mO aGp (args ++ List.replicate (Tryz.f154.ntmps - args.length) (.d .undef)) h (kFin env.P h.length false [.tmp 2]) :=
 aY (mode:=2) kr Tryz.func154 kr kr T3 kr kr
noncomputable def OM:SC:=bL Tryz.f154 0
theorem TW:aF env call L nf thaw live (mO 0) m (n + 1) s h k = aD env call L nf thaw live mO OM s h (bK env call L nf thaw live (mO 0) m n k) :=
 aQ T3 kr
noncomputable def N5:SC:=bL Tryz.f154 1
theorem SY:aF env call L nf thaw live (mO 1) m (n + 1) s h k = aD env call L nf thaw live mO N5 s h (bK env call L nf thaw live (mO 1) m n k) :=
 aQ T3 kr
noncomputable def aFD:SC:=bB Tryz.f155
noncomputable def mI:Nat → Code:=lpOf Tryz.f155
theorem RS:aL (aX Tryz.f155) = true:=kr
theorem aNG:aA env L (n + 1) 155 args h = aD env (aA env L n) L h.length [] Bz12 mI aFD (args ++ List.replicate (Tryz.f155.ntmps - args.length) (.d .undef)) h (kFin env.P h.length false [.tmp 6]) :=
 aY (mode:=2) kr Tryz.func155 kr kr RS kr kr
noncomputable def OE:SC:=bL Tryz.f155 0
theorem S7:aF env call L nf thaw live (mI 0) m (n + 1) s h k = aD env call L nf thaw live mI OE s h (bK env call L nf thaw live (mI 0) m n k) :=
 aQ RS kr
noncomputable def N6:SC:=bL Tryz.f155 1
theorem SS:aF env call L nf thaw live (mI 1) m (n + 1) s h k = aD env call L nf thaw live mI N6 s h (bK env call L nf thaw live (mI 1) m n k) :=
 aQ RS kr
noncomputable def tE:SC:=bB Tryz.f156
noncomputable def aNk:Nat → Code:=lpOf Tryz.f156
theorem aNn:aL (aX Tryz.f156) = true:=kr
theorem uJ:aA env L (n + 1) 156 args h = aD env (aA env L n) L h.length [] (Z2 (U1 (Z2 (Z1 (U2 (Z32 (Z16 (Z8 ([]))))))))) aNk tE (args ++ List.replicate (Tryz.f156.ntmps - args.length) (.d .undef)) h (kFin env.P h.length false [.tmp 6]) :=
 aY (mode:=1) kr Tryz.func156 kr kr aNn kr kr
noncomputable def aEt:SC:=bB Tryz.f157
noncomputable def xI:Nat → Code:=lpOf Tryz.f157
theorem aB7:aL (aX Tryz.f157) = true:=kr
theorem aMY:aA env L (n + 1) 157 args h = aD env (aA env L n) L h.length [] Bz40 xI aEt (args ++ List.replicate (Tryz.f157.ntmps - args.length) (.d .undef)) h (kFin env.P h.length false [.tmp 4]) :=
 aY (mode:=2) kr Tryz.func157 kr kr aB7 kr kr
noncomputable def LO:SC:=bL Tryz.f157 0
theorem PN:aF env call L nf thaw live (xI 0) m (n + 1) s h k = aD env call L nf thaw live xI LO s h (bK env call L nf thaw live (xI 0) m n k) :=
 aQ aB7 kr
noncomputable def aI7:SC:=bB Tryz.f158
noncomputable def mF:Nat → Code:=lpOf Tryz.f158
theorem XR:aL (aX Tryz.f158) = true:=kr
theorem aPG:aA env L (n + 1) 158 args h = aD env (aA env L n) L h.length [] Bz14 mF aI7 (args ++ List.replicate (Tryz.f158.ntmps - args.length) (.d .undef)) h (kFin env.P h.length false []) :=
 aY (mode:=0) kr Tryz.func158 kr kr XR kr kr
noncomputable def IE:SC:=bL Tryz.f158 0
theorem G0:aF env call L nf thaw live (mF 0) m (n + 1) s h k = aD env call L nf thaw live mF IE s h (bK env call L nf thaw live (mF 0) m n k) :=
 aQ XR kr
noncomputable def AF:SC:=bL Tryz.f158 1
theorem yG:aF env call L nf thaw live (mF 1) m (n + 1) s h k = aD env call L nf thaw live mF AF s h (bK env call L nf thaw live (mF 1) m n k) :=
 aQ XR kr
noncomputable def aDC:SC:=bB Tryz.f159
noncomputable def xK:Nat → Code:=lpOf Tryz.f159
theorem aBz:aL (aX Tryz.f159) = true:=kr
theorem aM4:aA env L (n + 1) 159 args h = aD env (aA env L n) L h.length [] Bz49 xK aDC (args ++ List.replicate (Tryz.f159.ntmps - args.length) (.d .undef)) h (kFin env.P h.length false [.tmp 4]) :=
 aY (mode:=1) kr Tryz.func159 kr kr aBz kr kr
noncomputable def LI:SC:=bL Tryz.f159 0
theorem O5:aF env call L nf thaw live (xK 0) m (n + 1) s h k = aD env call L nf thaw live xK LI s h (bK env call L nf thaw live (xK 0) m n k) :=
 aQ aBz kr
noncomputable def aDt:SC:=bB Tryz.f160
noncomputable def lG:Nat → Code:=lpOf Tryz.f160
theorem N7:aL (aX Tryz.f160) = true:=kr
theorem aM6:aA env L (n + 1) 160 args h = aD env (aA env L n) L h.length [] Bz16 lG aDt (args ++ List.replicate (Tryz.f160.ntmps - args.length) (.d .undef)) h (kFin env.P h.length false [.tmp 10]) :=
 aY (mode:=2) kr Tryz.func160 kr kr N7 kr kr
noncomputable def LM:SC:=bL Tryz.f160 0
theorem PC:aF env call L nf thaw live (lG 0) m (n + 1) s h k = aD env call L nf thaw live lG LM s h (bK env call L nf thaw live (lG 0) m n k) :=
 aQ N7 kr
noncomputable def t7:SC:=bL Tryz.f160 1
theorem tQ:aF env call L nf thaw live (lG 1) m (n + 1) s h k = aD env call L nf thaw live lG t7 s h (bK env call L nf thaw live (lG 1) m n k) :=
 aQ N7 kr
noncomputable def DD:SC:=bB Tryz.f161
noncomputable def u9:Nat → Code:=lpOf Tryz.f161
theorem ZG:aL (aX Tryz.f161) = true:=kr
theorem K3:aA env L (n + 1) 161 args h = aD env (aA env L n) L h.length [] Bz50 u9 DD (args ++ List.replicate (Tryz.f161.ntmps - args.length) (.d .undef)) h (kFin env.P h.length false [.tmp 2]) :=
 aY (mode:=1) kr Tryz.func161 kr kr ZG kr kr
noncomputable def sK:SC:=bL Tryz.f161 0
theorem sD:aF env call L nf thaw live (u9 0) m (n + 1) s h k = aD env call L nf thaw live u9 sK s h (bK env call L nf thaw live (u9 0) m n k) :=
 aQ ZG kr
noncomputable def ZU:SC:=bB Tryz.f162
noncomputable def sP:Nat → Code:=lpOf Tryz.f162
theorem UL:aL (aX Tryz.f162) = true:=kr
theorem aJQ:aA env L (n + 1) 162 args h = aD env (aA env L n) L h.length [] (U1 (Z1 (U4 (Z16 ([]))))) sP ZU (args ++ List.replicate (Tryz.f162.ntmps - args.length) (.d .undef)) h (kFin env.P h.length false [.tmp 2,.tmp 3]) :=
 aY (mode:=1) kr Tryz.func162 kr kr UL kr kr
noncomputable def D3:SC:=bL Tryz.f162 0
theorem JL:aF env call L nf thaw live (sP 0) m (n + 1) s h k = aD env call L nf thaw live sP D3 s h (bK env call L nf thaw live (sP 0) m n k) :=
 aQ UL kr
noncomputable def aHu:SC:=bB Tryz.f163
noncomputable def aUk:Nat → Code:=lpOf Tryz.f163
theorem aT9:aL (aX Tryz.f163) = true:=kr
theorem aLr:aA env L (n + 1) 163 args h = aD env (aA env L n) L h.length [] ([]) aUk aHu (args ++ List.replicate (Tryz.f163.ntmps - args.length) (.d .undef)) h (kFin env.P h.length false [.tmp 6]) :=
 aY (mode:=1) kr Tryz.func163 kr kr aT9 kr kr
noncomputable def aO0:SC:=bB Tryz.f164
noncomputable def aTk:Nat → Code:=lpOf Tryz.f164
theorem aTr:aL (aX Tryz.f164) = true:=kr
theorem aSK:aA env L (n + 1) 164 args h = aD env (aA env L n) L h.length [] ([]) aTk aO0 (args ++ List.replicate (Tryz.f164.ntmps - args.length) (.d .undef)) h (kFin env.P h.length false [.tmp 4]) :=
 aY (mode:=1) kr Tryz.func164 kr kr aTr kr kr
noncomputable def xH:SC:=bB Tryz.f174
noncomputable def fE:Nat → Code:=lpOf Tryz.f174
theorem vK:aL (aX Tryz.f174) = true:=kr
theorem NB:aA env L (n + 1) 174 args h = aD env (aA env L n) L h.length [] Bz34 fE xH (args ++ List.replicate (Tryz.f174.ntmps - args.length) (.d .undef)) h (kFin env.P h.length false []) :=
 aY (mode:=0) kr Tryz.func174 kr kr vK kr kr
noncomputable def kP:SC:=bL Tryz.f174 0
theorem l8:aF env call L nf thaw live (fE 0) m (n + 1) s h k = aD env call L nf thaw live fE kP s h (bK env call L nf thaw live (fE 0) m n k) :=
 aQ vK kr
noncomputable def aFE:SC:=bB Tryz.f175
noncomputable def gN:Nat → Code:=lpOf Tryz.f175
theorem HH:aL (aX Tryz.f175) = true:=kr
theorem aOQ:aA env L (n + 1) 175 args h = aD env (aA env L n) L h.length [] Bz5 gN aFE (args ++ List.replicate (Tryz.f175.ntmps - args.length) (.d .undef)) h (kFin env.P h.length false [.tmp 8]) :=
 aY (mode:=2) kr Tryz.func175 kr kr HH kr kr
noncomputable def N9:SC:=bL Tryz.f175 0
theorem SV:aF env call L nf thaw live (gN 0) m (n + 1) s h k = aD env call L nf thaw live gN N9 s h (bK env call L nf thaw live (gN 0) m n k) :=
 aQ HH kr
noncomputable def OI:SC:=bL Tryz.f175 1
theorem SP:aF env call L nf thaw live (gN 1) m (n + 1) s h k = aD env call L nf thaw live gN OI s h (bK env call L nf thaw live (gN 1) m n k) :=
 aQ HH kr
noncomputable def OJ:SC:=bL Tryz.f175 2
theorem R6:aF env call L nf thaw live (gN 2) m (n + 1) s h k = aD env call L nf thaw live gN OJ s h (bK env call L nf thaw live (gN 2) m n k) :=
 aQ HH kr
noncomputable def aNo:SC:=bB Tryz.f176
noncomputable def aSJ:Nat → Code:=lpOf Tryz.f176
theorem aUY:aL (aX Tryz.f176) = true:=kr
theorem aTl:aA env L (n + 1) 176 args h = aD env (aA env L n) L h.length [] ([]) aSJ aNo (args ++ List.replicate (Tryz.f176.ntmps - args.length) (.d .undef)) h (kFin env.P h.length false [.tmp 6]) :=
 aY (mode:=1) kr Tryz.func176 kr kr aUY kr kr
noncomputable def aAU:SC:=bB Tryz.f177
noncomputable def oO:Nat → Code:=lpOf Tryz.f177
theorem XJ:aL (aX Tryz.f177) = true:=kr
theorem aGh:aA env L (n + 1) 177 args h = aD env (aA env L n) L h.length [] Bz13 oO aAU (args ++ List.replicate (Tryz.f177.ntmps - args.length) (.d .undef)) h (kFin env.P h.length false [.tmp 6]) :=
 aY (mode:=1) kr Tryz.func177 kr kr XJ kr kr
noncomputable def FZ:SC:=bL Tryz.f177 0
theorem FM:aF env call L nf thaw live (oO 0) m (n + 1) s h k = aD env call L nf thaw live oO FZ s h (bK env call L nf thaw live (oO 0) m n k) :=
 aQ XJ kr
noncomputable def HI:SC:=bL Tryz.f177 1
theorem HD:aF env call L nf thaw live (oO 1) m (n + 1) s h k = aD env call L nf thaw live oO HI s h (bK env call L nf thaw live (oO 1) m n k) :=
 aQ XJ kr
noncomputable def aLO:SC:=bB Tryz.f178
noncomputable def aSf:Nat → Code:=lpOf Tryz.f178
theorem aRd:aL (aX Tryz.f178) = true:=kr
theorem aRA:aA env L (n + 1) 178 args h = aD env (aA env L n) L h.length [] ([]) aSf aLO (args ++ List.replicate (Tryz.f178.ntmps - args.length) (.d .undef)) h (kFin env.P h.length false [.tmp 2]) :=
 aY (mode:=1) kr Tryz.func178 kr kr aRd kr kr
noncomputable def aFX:SC:=bB Tryz.f179
noncomputable def zH:Nat → Code:=lpOf Tryz.f179
theorem aD0:aL (aX Tryz.f179) = true:=kr
theorem aO9:aA env L (n + 1) 179 args h = aD env (aA env L n) L h.length [] Bz44 zH aFX (args ++ List.replicate (Tryz.f179.ntmps - args.length) (.d .undef)) h (kFin env.P h.length false [.tmp 4]) :=
 aY (mode:=1) kr Tryz.func179 kr kr aD0 kr kr
noncomputable def C7:SC:=bL Tryz.f179 0
theorem DK:aF env call L nf thaw live (zH 0) m (n + 1) s h k = aD env call L nf thaw live zH C7 s h (bK env call L nf thaw live (zH 0) m n k) :=
 aQ aD0 kr
noncomputable def aBw:SC:=bB Tryz.f182
noncomputable def aKx:Nat → Code:=lpOf Tryz.f182
theorem aKT:aL (aX Tryz.f182) = true:=kr
theorem aKq:aA env L (n + 1) 182 args h = aD env (aA env L n) L h.length [] (Z2 (U2 (Z4 (U4 (Z32 (Z32 (Z2 (Z1 ([]))))))))) aKx aBw (args ++ List.replicate (Tryz.f182.ntmps - args.length) (.d .undef)) h (kFin env.P h.length false [.tmp 8]) :=
 aY (mode:=2) kr Tryz.func182 kr kr aKT kr kr
end
end Ev
end Go.Proofs.YtejmccgfigiadaaGreat
