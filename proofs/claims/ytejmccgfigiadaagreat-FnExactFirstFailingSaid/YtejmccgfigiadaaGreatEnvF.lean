/-
  Each function's code as an equation. Written by a program.
-/
import Derived.Test.YtejmccgfigiadaaGreatEnv
set_option maxRecDepth 100000
namespace Go.Proofs.YtejmccgfigiadaaGreat
namespace Ev
section
variable {R:Type} {call:b7} {L nf n:Nat} {thaw:List Nat} {live m:List Bool} {s args:List A} {h:H} {k:KE R}
noncomputable def pI:SC:=bB Tryz.f4
noncomputable def XN:Nat → Code:=lpOf Tryz.f4
theorem XG:aM (aX Tryz.f4) = true:=kr
theorem tE:aA env L (n + 1) 4 args h = aD env (aA env L n) L h.length [] ([]) XN pI (args ++ List.replicate (Tryz.f4.ntmps - args.length) (.d .undef)) h (kFin env.P h.length false [.tmp 6]) :=
 aY (mode:=1) kr Tryz.func4 kr kr XG kr kr
noncomputable def C6:SC:=bB Tryz.f12
noncomputable def aKc:Nat → Code:=lpOf Tryz.f12
theorem aKx:aM (aX Tryz.f12) = true:=kr
theorem KB:aA env L (n + 1) 12 args h = aD env (aA env L n) L h.length [] ([]) aKc C6 (args ++ List.replicate (Tryz.f12.ntmps - args.length) (.d .undef)) h (kFin env.P h.length false [.tmp 4]) :=
 aY (mode:=1) kr Tryz.func12 kr kr aKx kr kr
noncomputable def sA:SC:=bB Tryz.f13
noncomputable def eW:Nat → Code:=lpOf Tryz.f13
theorem AV:aM (aX Tryz.f13) = true:=kr
theorem u5:aA env L (n + 1) 13 args h = aD env (aA env L n) L h.length [] Bz8 eW sA (args ++ List.replicate (Tryz.f13.ntmps - args.length) (.d .undef)) h (kFin env.P h.length false [.tmp 4,.tmp 5]) :=
 aY (mode:=2) kr Tryz.func13 kr kr AV kr kr
noncomputable def yP:SC:=bL Tryz.f13 0
theorem zB:aF env call L nf thaw live (eW 0) m (n + 1) s h k = aD env call L nf thaw live eW yP s h (bK env call L nf thaw live (eW 0) m n k) :=
 aR AV kr
noncomputable def yF:SC:=bL Tryz.f13 1
theorem AD:aF env call L nf thaw live (eW 1) m (n + 1) s h k = aD env call L nf thaw live eW yF s h (bK env call L nf thaw live (eW 1) m n k) :=
 aR AV kr
noncomputable def yV:SC:=bL Tryz.f13 2
theorem zE:aF env call L nf thaw live (eW 2) m (n + 1) s h k = aD env call L nf thaw live eW yV s h (bK env call L nf thaw live (eW 2) m n k) :=
 aR AV kr
noncomputable def aBu:SC:=bB Tryz.f14
noncomputable def aJ8:Nat → Code:=lpOf Tryz.f14
theorem aJ5:aM (aX Tryz.f14) = true:=kr
theorem aKj:aA env L (n + 1) 14 args h = aD env (aA env L n) L h.length [] ([]) aJ8 aBu (args ++ List.replicate (Tryz.f14.ntmps - args.length) (.d .undef)) h (kFin env.P h.length true Tryz.f14.results.toList) :=
 aY (mode:=2) kr Tryz.func14 kr kr aJ5 kr kr
noncomputable def sB:SC:=bB Tryz.f15
noncomputable def eX:Nat → Code:=lpOf Tryz.f15
theorem AU:aM (aX Tryz.f15) = true:=kr
theorem uQ:aA env L (n + 1) 15 args h = aD env (aA env L n) L h.length [] Bz1 eX sB (args ++ List.replicate (Tryz.f15.ntmps - args.length) (.d .undef)) h (kFin env.P h.length true [.tmp 4,.tmp 5]) :=
 aY (mode:=3) kr Tryz.func15 kr kr AU kr kr
noncomputable def yR:SC:=bL Tryz.f15 0
theorem zY:aF env call L nf thaw live (eX 0) m (n + 1) s h k = aD env call L nf thaw live eX yR s h (bK env call L nf thaw live (eX 0) m n k) :=
 aR AU kr
noncomputable def x9:SC:=bL Tryz.f15 1
theorem AC:aF env call L nf thaw live (eX 1) m (n + 1) s h k = aD env call L nf thaw live eX x9 s h (bK env call L nf thaw live (eX 1) m n k) :=
 aR AU kr
noncomputable def F8:SC:=bL Tryz.f15 2
theorem MC:aF env call L nf thaw live (eX 2) m (n + 1) s h k = aD env call L nf thaw live eX F8 s h (bK env call L nf thaw live (eX 2) m n k) :=
 aR AU kr
noncomputable def aBY:SC:=bB Tryz.f17
noncomputable def aKp:Nat → Code:=lpOf Tryz.f17
theorem aKB:aM (aX Tryz.f17) = true:=kr
theorem aKJ:aA env L (n + 1) 17 args h = aD env (aA env L n) L h.length [] ([]) aKp aBY (args ++ List.replicate (Tryz.f17.ntmps - args.length) (.d .undef)) h (kFin env.P h.length false [.tmp 4]) :=
 aY (mode:=1) kr Tryz.func17 kr kr aKB kr kr
noncomputable def rD:SC:=bB Tryz.f21
noncomputable def pZ:Nat → Code:=lpOf Tryz.f21
theorem O2:aM (aX Tryz.f21) = true:=kr
theorem tM:aA env L (n + 1) 21 args h = aD env (aA env L n) L h.length [] Bz22 pZ rD (args ++ List.replicate (Tryz.f21.ntmps - args.length) (.d .undef)) h (kFin env.P h.length false [.tmp 6,.tmp 7]) :=
 aY (mode:=1) kr Tryz.func21 kr kr O2 kr kr
noncomputable def sH:SC:=bL Tryz.f21 0
theorem uY:aF env call L nf thaw live (pZ 0) m (n + 1) s h k = aD env call L nf thaw live pZ sH s h (bK env call L nf thaw live (pZ 0) m n k) :=
 aR O2 kr
noncomputable def rS:SC:=bB Tryz.f22
noncomputable def p6:Nat → Code:=lpOf Tryz.f22
theorem PK:aM (aX Tryz.f22) = true:=kr
theorem tQ:aA env L (n + 1) 22 args h = aD env (aA env L n) L h.length [] Bz23 p6 rS (args ++ List.replicate (Tryz.f22.ntmps - args.length) (.d .undef)) h (kFin env.P h.length false [.tmp 6,.tmp 7]) :=
 aY (mode:=1) kr Tryz.func22 kr kr PK kr kr
noncomputable def sR:SC:=bL Tryz.f22 0
theorem uC:aF env call L nf thaw live (p6 0) m (n + 1) s h k = aD env call L nf thaw live p6 sR s h (bK env call L nf thaw live (p6 0) m n k) :=
 aR PK kr
noncomputable def uF:SC:=bB Tryz.f28
noncomputable def sQ:Nat → Code:=lpOf Tryz.f28
theorem WH:aM (aX Tryz.f28) = true:=kr
theorem yM:aA env L (n + 1) 28 args h = aD env (aA env L n) L h.length [] Bz36 sQ uF (args ++ List.replicate (Tryz.f28.ntmps - args.length) (.d .undef)) h (kFin env.P h.length false [.tmp 4]) :=
 aY (mode:=1) kr Tryz.func28 kr kr WH kr kr
noncomputable def wG:SC:=bL Tryz.f28 0
theorem xY:aF env call L nf thaw live (sQ 0) m (n + 1) s h k = aD env call L nf thaw live sQ wG s h (bK env call L nf thaw live (sQ 0) m n k) :=
 aR WH kr
noncomputable def ZO:SC:=bB Tryz.f30
noncomputable def sK:Nat → Code:=lpOf Tryz.f30
theorem T3:aM (aX Tryz.f30) = true:=kr
theorem aH2:aA env L (n + 1) 30 args h = aD env (aA env L n) L h.length [0,0,0,2] Bz39 sK ZO (args ++ List.replicate (Tryz.f30.ntmps - args.length) (.d .undef)) h (kFin env.P h.length true [.tmp 2]) :=
 aY (mode:=3) kr Tryz.func30 kr kr T3 kr kr
noncomputable def vP:SC:=bL Tryz.f30 0
theorem x3:aF env call L nf thaw live (sK 0) m (n + 1) s h k = aD env call L nf thaw live sK vP s h (bK env call L nf thaw live (sK 0) m n k) :=
 aR T3 kr
noncomputable def JF:SC:=bB Tryz.f31
noncomputable def eN:Nat → Code:=lpOf Tryz.f31
theorem wT:aM (aX Tryz.f31) = true:=kr
theorem aA9:aA env L (n + 1) 31 args h = aD env (aA env L n) L h.length [] Bz11 eN JF (args ++ List.replicate (Tryz.f31.ntmps - args.length) (.d .undef)) h (kFin env.P h.length true [.tmp 2]) :=
 aY (mode:=3) kr Tryz.func31 kr kr wT kr kr
noncomputable def vC:SC:=bL Tryz.f31 0
theorem yZ:aF env call L nf thaw live (eN 0) m (n + 1) s h k = aD env call L nf thaw live eN vC s h (bK env call L nf thaw live (eN 0) m n k) :=
 aR wT kr
noncomputable def lU:SC:=bL Tryz.f31 1
theorem mI:aF env call L nf thaw live (eN 1) m (n + 1) s h k = aD env call L nf thaw live eN lU s h (bK env call L nf thaw live (eN 1) m n k) :=
 aR wT kr
noncomputable def UU:SC:=bB Tryz.f36
noncomputable def aGK:Nat → Code:=lpOf Tryz.f36
theorem aHm:aM (aX Tryz.f36) = true:=kr
theorem aGO:aA env L (n + 1) 36 args h = aD env (aA env L n) L h.length [] ([]) aGK UU (args ++ List.replicate (Tryz.f36.ntmps - args.length) (.d .undef)) h (kFin env.P h.length false [.tmp 4]) :=
 aY (mode:=1) kr Tryz.func36 kr kr aHm kr kr
noncomputable def WS:SC:=bB Tryz.f39
noncomputable def FK:Nat → Code:=lpOf Tryz.f39
theorem aIs:aM (aX Tryz.f39) = true:=kr
theorem aAl:aA env L (n + 1) 39 args h = aD env (aA env L n) L h.length [] Bz17 FK WS (args ++ List.replicate (Tryz.f39.ntmps - args.length) (.d .undef)) h (kFin env.P h.length false [.tmp 4]) :=
 aY (mode:=1) kr Tryz.func39 kr kr aIs kr kr
noncomputable def LO:SC:=bL Tryz.f39 0
theorem J8:aF env call L nf thaw live (FK 0) m (n + 1) s h k = aD env call L nf thaw live FK LO s h (bK env call L nf thaw live (FK 0) m n k) :=
 aR aIs kr
noncomputable def aEf:SC:=bB Tryz.f40
noncomputable def aRj:Nat → Code:=lpOf Tryz.f40
theorem aRk:aM (aX Tryz.f40) = true:=kr
theorem aIz:aA env L (n + 1) 40 args h = aD env (aA env L n) L h.length [] ([]) aRj aEf (args ++ List.replicate (Tryz.f40.ntmps - args.length) (.d .undef)) h (kFin env.P h.length false [.tmp 4]) :=
 aY (mode:=1) kr Tryz.func40 kr kr aRk kr kr
noncomputable def jL:SC:=bB Tryz.f41
noncomputable def nS:Nat → Code:=lpOf Tryz.f41
theorem JP:aM (aX Tryz.f41) = true:=kr
theorem lA:aA env L (n + 1) 41 args h = aD env (aA env L n) L h.length [] Bz46 nS jL (args ++ List.replicate (Tryz.f41.ntmps - args.length) (.d .undef)) h (kFin env.P h.length false [.tmp 2]) :=
 aY (mode:=1) kr Tryz.func41 kr kr JP kr kr
noncomputable def qE:SC:=bL Tryz.f41 0
theorem r8:aF env call L nf thaw live (nS 0) m (n + 1) s h k = aD env call L nf thaw live nS qE s h (bK env call L nf thaw live (nS 0) m n k) :=
 aR JP kr
noncomputable def KX:SC:=bB Tryz.f42
noncomputable def sJ:Nat → Code:=lpOf Tryz.f42
theorem UI:aM (aX Tryz.f42) = true:=kr
theorem WI:aA env L (n + 1) 42 args h = aD env (aA env L n) L h.length [] Bz54 sJ KX (args ++ List.replicate (Tryz.f42.ntmps - args.length) (.d .undef)) h (kFin env.P h.length false [.tmp 2]) :=
 aY (mode:=2) kr Tryz.func42 kr kr UI kr kr
noncomputable def DU:SC:=bL Tryz.f42 0
theorem JQ:aF env call L nf thaw live (sJ 0) m (n + 1) s h k = aD env call L nf thaw live sJ DU s h (bK env call L nf thaw live (sJ 0) m n k) :=
 aR UI kr
noncomputable def x6:SC:=bB Tryz.f43
noncomputable def eP:Nat → Code:=lpOf Tryz.f43
theorem wE:aM (aX Tryz.f43) = true:=kr
theorem FX:aA env L (n + 1) 43 args h = aD env (aA env L n) L h.length [] Bz30 eP x6 (args ++ List.replicate (Tryz.f43.ntmps - args.length) (.d .undef)) h (kFin env.P h.length false [.tmp 2]) :=
 aY (mode:=2) kr Tryz.func43 kr kr wE kr kr
noncomputable def uT:SC:=bL Tryz.f43 0
theorem zF:aF env call L nf thaw live (eP 0) m (n + 1) s h k = aD env call L nf thaw live eP uT s h (bK env call L nf thaw live (eP 0) m n k) :=
 aR wE kr
noncomputable def lW:SC:=bL Tryz.f43 1
theorem mJ:aF env call L nf thaw live (eP 1) m (n + 1) s h k = aD env call L nf thaw live eP lW s h (bK env call L nf thaw live (eP 1) m n k) :=
 aR wE kr
noncomputable def aB2:SC:=bB Tryz.f44
noncomputable def iO:Nat → Code:=lpOf Tryz.f44
theorem KR:aM (aX Tryz.f44) = true:=kr
theorem aJ7:aA env L (n + 1) 44 args h = aD env (aA env L n) L h.length [] Bz9 iO aB2 (args ++ List.replicate (Tryz.f44.ntmps - args.length) (.d .undef)) h (kFin env.P h.length false [.tmp 4]) :=
 aY (mode:=2) kr Tryz.func44 kr kr KR kr kr
noncomputable def yD:SC:=bL Tryz.f44 0
theorem zK:aF env call L nf thaw live (iO 0) m (n + 1) s h k = aD env call L nf thaw live iO yD s h (bK env call L nf thaw live (iO 0) m n k) :=
 aR KR kr
noncomputable def GN:SC:=bL Tryz.f44 1
theorem NH:aF env call L nf thaw live (iO 1) m (n + 1) s h k = aD env call L nf thaw live iO GN s h (bK env call L nf thaw live (iO 1) m n k) :=
 aR KR kr
noncomputable def QH:SC:=bB Tryz.f45
noncomputable def CN:Nat → Code:=lpOf Tryz.f45
theorem aFs:aM (aX Tryz.f45) = true:=kr
theorem XP:aA env L (n + 1) 45 args h = aD env (aA env L n) L h.length [] Bz47 CN QH (args ++ List.replicate (Tryz.f45.ntmps - args.length) (.d .undef)) h (kFin env.P h.length false [.tmp 4]) :=
 aY (mode:=0) kr Tryz.func45 kr kr aFs kr kr
noncomputable def TS:SC:=bL Tryz.f45 0
theorem WE:aF env call L nf thaw live (CN 0) m (n + 1) s h k = aD env call L nf thaw live CN TS s h (bK env call L nf thaw live (CN 0) m n k) :=
 aR aFs kr
noncomputable def aLC:SC:=bB Tryz.f46
noncomputable def AJ:Nat → Code:=lpOf Tryz.f46
theorem aJL:aM (aX Tryz.f46) = true:=kr
theorem aR8:aA env L (n + 1) 46 args h = aD env (aA env L n) L h.length (W4 (W2 (W1 [1002]))) Bz31 AJ aLC (args ++ List.replicate (Tryz.f46.ntmps - args.length) (.d .undef)) h (kFin env.P h.length true [.tmp 2]) :=
 aY (mode:=2) kr Tryz.func46 kr kr aJL kr kr
noncomputable def XE:SC:=bL Tryz.f46 0
theorem ZH:aF env call L nf thaw live (AJ 0) m (n + 1) s h k = aD env call L nf thaw live AJ XE s h (bK env call L nf thaw live (AJ 0) m n k) :=
 aR aJL kr
noncomputable def aMh:SC:=bB Tryz.f47
noncomputable def F4:Nat → Code:=lpOf Tryz.f47
theorem aJP:aM (aX Tryz.f47) = true:=kr
theorem aSf:aA env L (n + 1) 47 args h = aD env (aA env L n) L h.length [] Bz18 F4 aMh (args ++ List.replicate (Tryz.f47.ntmps - args.length) (.d .undef)) h (kFin env.P h.length true [.tmp 2]) :=
 aY (mode:=2) kr Tryz.func47 kr kr aJP kr kr
noncomputable def WX:SC:=bL Tryz.f47 0
theorem YK:aF env call L nf thaw live (F4 0) m (n + 1) s h k = aD env call L nf thaw live F4 WX s h (bK env call L nf thaw live (F4 0) m n k) :=
 aR aJP kr
noncomputable def jR:SC:=bB Tryz.f48
noncomputable def fD:Nat → Code:=lpOf Tryz.f48
theorem xW:aM (aX Tryz.f48) = true:=kr
theorem k5:aA env L (n + 1) 48 args h = aD env (aA env L n) L h.length [] Bz6 fD jR (args ++ List.replicate (Tryz.f48.ntmps - args.length) (.d .undef)) h (kFin env.P h.length false [.tmp 2]) :=
 aY (mode:=1) kr Tryz.func48 kr kr xW kr kr
noncomputable def mZ:SC:=bL Tryz.f48 0
theorem nQ:aF env call L nf thaw live (fD 0) m (n + 1) s h k = aD env call L nf thaw live fD mZ s h (bK env call L nf thaw live (fD 0) m n k) :=
 aR xW kr
noncomputable def mU:SC:=bL Tryz.f48 1
theorem nO:aF env call L nf thaw live (fD 1) m (n + 1) s h k = aD env call L nf thaw live fD mU s h (bK env call L nf thaw live (fD 1) m n k) :=
 aR xW kr
noncomputable def aCb:SC:=bB Tryz.f49
noncomputable def eV:Nat → Code:=lpOf Tryz.f49
theorem AM:aM (aX Tryz.f49) = true:=kr
theorem aKm:aA env L (n + 1) 49 args h = aD env (aA env L n) L h.length (W8 (W4 [2002])) Bz4 eV aCb (args ++ List.replicate (Tryz.f49.ntmps - args.length) (.d .undef)) h (kFin env.P h.length false [.tmp 4]) :=
 aY (mode:=2) kr Tryz.func49 kr kr AM kr kr
noncomputable def FO:SC:=bL Tryz.f49 0
theorem MP:aF env call L nf thaw live (eV 0) m (n + 1) s h k = aD env call L nf thaw live eV FO s h (bK env call L nf thaw live (eV 0) m n k) :=
 aR AM kr
noncomputable def F5:SC:=bL Tryz.f49 1
theorem NQ:aF env call L nf thaw live (eV 1) m (n + 1) s h k = aD env call L nf thaw live eV F5 s h (bK env call L nf thaw live (eV 1) m n k) :=
 aR AM kr
noncomputable def G4:SC:=bL Tryz.f49 2
theorem MU:aF env call L nf thaw live (eV 2) m (n + 1) s h k = aD env call L nf thaw live eV G4 s h (bK env call L nf thaw live (eV 2) m n k) :=
 aR AM kr
theorem IM {L n:Nat} {args:List A} {h:H}:aA env L (n + 1) 50 args h = LE 94 52 args h:=by
 have:env.prim 50 = some (LE 94 52):=kr
 simp only [aA,this]
noncomputable def nE:SC:=bB Tryz.f51
noncomputable def vN:Nat → Code:=lpOf Tryz.f51
theorem wR:aM (aX Tryz.f51) = true:=kr
theorem wC:aA env L (n + 1) 51 args h = aD env (aA env L n) L h.length [] ([]) vN nE (args ++ List.replicate (Tryz.f51.ntmps - args.length) (.d .undef)) h (kFin env.P h.length true [.tmp 2]) :=
 aY (mode:=0) kr Tryz.func51 kr kr wR kr kr
noncomputable def H7:SC:=bB Tryz.f52
noncomputable def aBH:Nat → Code:=lpOf Tryz.f52
theorem aCc:aM (aX Tryz.f52) = true:=kr
theorem aMR:aA env L (n + 1) 52 args h = aD env (aA env L n) L h.length [] ([]) aBH H7 (args ++ List.replicate (Tryz.f52.ntmps - args.length) (.d .undef)) h (kFin env.P h.length false [.tmp 4]) :=
 aY (mode:=1) kr Tryz.func52 kr kr aCc kr kr
noncomputable def aL4:SC:=bB Tryz.f53
noncomputable def HL:Nat → Code:=lpOf Tryz.f53
theorem aH6:aM (aX Tryz.f53) = true:=kr
theorem aSh:aA env L (n + 1) 53 args h = aD env (aA env L n) L h.length [] Bz17 HL aL4 (args ++ List.replicate (Tryz.f53.ntmps - args.length) (.d .undef)) h (kFin env.P h.length false [.tmp 4]) :=
 aY (mode:=1) kr Tryz.func53 kr kr aH6 kr kr
noncomputable def W7:SC:=bL Tryz.f53 0
theorem ZR:aF env call L nf thaw live (HL 0) m (n + 1) s h k = aD env call L nf thaw live HL W7 s h (bK env call L nf thaw live (HL 0) m n k) :=
 aR aH6 kr
noncomputable def aMI:SC:=bB Tryz.f54
noncomputable def IE:Nat → Code:=lpOf Tryz.f54
theorem aHX:aM (aX Tryz.f54) = true:=kr
theorem aQ9:aA env L (n + 1) 54 args h = aD env (aA env L n) L h.length [] Bz24 IE aMI (args ++ List.replicate (Tryz.f54.ntmps - args.length) (.d .undef)) h (kFin env.P h.length false [.tmp 4]) :=
 aY (mode:=1) kr Tryz.func54 kr kr aHX kr kr
noncomputable def XJ:SC:=bL Tryz.f54 0
theorem ZW:aF env call L nf thaw live (IE 0) m (n + 1) s h k = aD env call L nf thaw live IE XJ s h (bK env call L nf thaw live (IE 0) m n k) :=
 aR aHX kr
noncomputable def UB:SC:=bB Tryz.f58
noncomputable def aRW:Nat → Code:=lpOf Tryz.f58
theorem aRD:aM (aX Tryz.f58) = true:=kr
theorem aAX:aA env L (n + 1) 58 args h = aD env (aA env L n) L h.length [] ([]) aRW UB (args ++ List.replicate (Tryz.f58.ntmps - args.length) (.d .undef)) h (kFin env.P h.length false [.tmp 4]) :=
 aY (mode:=1) kr Tryz.func58 kr kr aRD kr kr
noncomputable def VU:SC:=bB Tryz.f59
noncomputable def aHp:Nat → Code:=lpOf Tryz.f59
theorem aGT:aM (aX Tryz.f59) = true:=kr
theorem aGR:aA env L (n + 1) 59 args h = aD env (aA env L n) L h.length [] ([]) aHp VU (args ++ List.replicate (Tryz.f59.ntmps - args.length) (.d .undef)) h (kFin env.P h.length false [.tmp 4]) :=
 aY (mode:=1) kr Tryz.func59 kr kr aGT kr kr
noncomputable def yC:SC:=bB Tryz.f60
noncomputable def aGt:Nat → Code:=lpOf Tryz.f60
theorem aHq:aM (aX Tryz.f60) = true:=kr
theorem DS:aA env L (n + 1) 60 args h = aD env (aA env L n) L h.length [] ([]) aGt yC (args ++ List.replicate (Tryz.f60.ntmps - args.length) (.d .undef)) h (kFin env.P h.length false [.tmp 4]) :=
 aY (mode:=1) kr Tryz.func60 kr kr aHq kr kr
noncomputable def ZT:SC:=bB Tryz.f64
noncomputable def aJt:Nat → Code:=lpOf Tryz.f64
theorem aJl:aM (aX Tryz.f64) = true:=kr
theorem aH1:aA env L (n + 1) 64 args h = aD env (aA env L n) L h.length [] ([]) aJt ZT (args ++ List.replicate (Tryz.f64.ntmps - args.length) (.d .undef)) h (kFin env.P h.length false [.tmp 2]) :=
 aY (mode:=1) kr Tryz.func64 kr kr aJl kr kr
noncomputable def aQY:SC:=bB Tryz.f65
noncomputable def aXA:Nat → Code:=lpOf Tryz.f65
theorem aWU:aM (aX Tryz.f65) = true:=kr
theorem aWH:aA env L (n + 1) 65 args h = aD env (aA env L n) L h.length [] ([]) aXA aQY (args ++ List.replicate (Tryz.f65.ntmps - args.length) (.d .undef)) h (kFin env.P h.length false [.tmp 4]) :=
 aY (mode:=1) kr Tryz.func65 kr kr aWU kr kr
noncomputable def aD0:SC:=bB Tryz.f66
noncomputable def aM4:Nat → Code:=lpOf Tryz.f66
theorem aMX:aM (aX Tryz.f66) = true:=kr
theorem aM0:aA env L (n + 1) 66 args h = aD env (aA env L n) L h.length [] ([]) aM4 aD0 (args ++ List.replicate (Tryz.f66.ntmps - args.length) (.d .undef)) h (kFin env.P h.length false [.tmp 4]) :=
 aY (mode:=1) kr Tryz.func66 kr kr aMX kr kr
noncomputable def LI:SC:=bB Tryz.f68
noncomputable def aIT:Nat → Code:=lpOf Tryz.f68
theorem aJr:aM (aX Tryz.f68) = true:=kr
theorem VL:aA env L (n + 1) 68 args h = aD env (aA env L n) L h.length [] ([]) aIT LI (args ++ List.replicate (Tryz.f68.ntmps - args.length) (.d .undef)) h (kFin env.P h.length false [.tmp 4,.tmp 5]) :=
 aY (mode:=1) kr Tryz.func68 kr kr aJr kr kr
theorem BO {L n:Nat} {args:List A} {h:H}:aA env L (n + 1) 69 args h = Q7 52 args h:=by
 have:env.prim 69 = some (Q7 52):=kr
 simp only [aA,this]
noncomputable def mY:SC:=bB Tryz.f70
noncomputable def aGB:Nat → Code:=lpOf Tryz.f70
theorem aGV:aM (aX Tryz.f70) = true:=kr
theorem oB:aA env L (n + 1) 70 args h = aD env (aA env L n) L h.length [] ([]) aGB mY (args ++ List.replicate (Tryz.f70.ntmps - args.length) (.d .undef)) h (kFin env.P h.length false [.tmp 6,.tmp 7]) :=
 aY (mode:=1) kr Tryz.func70 kr kr aGV kr kr
noncomputable def rZ:SC:=bB Tryz.f71
noncomputable def D5:Nat → Code:=lpOf Tryz.f71
theorem D9:aM (aX Tryz.f71) = true:=kr
theorem DV:aA env L (n + 1) 71 args h = aD env (aA env L n) L h.length [] ([]) D5 rZ (args ++ List.replicate (Tryz.f71.ntmps - args.length) (.d .undef)) h (kFin env.P h.length false [.tmp 4]) :=
 aY (mode:=1) kr Tryz.func71 kr kr D9 kr kr
noncomputable def A7:SC:=bB Tryz.f76
noncomputable def sT:Nat → Code:=lpOf Tryz.f76
theorem WG:aM (aX Tryz.f76) = true:=kr
theorem HH:aA env L (n + 1) 76 args h = aD env (aA env L n) L h.length [] Bz26 sT A7 (args ++ List.replicate (Tryz.f76.ntmps - args.length) (.d .undef)) h (kFin env.P h.length false [.tmp 4]) :=
 aY (mode:=1) kr Tryz.func76 kr kr WG kr kr
noncomputable def DW:SC:=bL Tryz.f76 0
theorem JT:aF env call L nf thaw live (sT 0) m (n + 1) s h k = aD env call L nf thaw live sT DW s h (bK env call L nf thaw live (sT 0) m n k) :=
 aR WG kr
noncomputable def VB:SC:=bB Tryz.f77
noncomputable def aGr:Nat → Code:=lpOf Tryz.f77
theorem aHe:aM (aX Tryz.f77) = true:=kr
theorem aHf:aA env L (n + 1) 77 args h = aD env (aA env L n) L h.length [] ([]) aGr VB (args ++ List.replicate (Tryz.f77.ntmps - args.length) (.d .undef)) h (kFin env.P h.length false [.tmp 10,.tmp 11]) :=
 aY (mode:=1) kr Tryz.func77 kr kr aHe kr kr
noncomputable def aHc:SC:=bB Tryz.f80
noncomputable def aUr:Nat → Code:=lpOf Tryz.f80
theorem aSV:aM (aX Tryz.f80) = true:=kr
theorem aLo:aA env L (n + 1) 80 args h = aD env (aA env L n) L h.length [] ([]) aUr aHc (args ++ List.replicate (Tryz.f80.ntmps - args.length) (.d .undef)) h (kFin env.P h.length false [.tmp 4]) :=
 aY (mode:=1) kr Tryz.func80 kr kr aSV kr kr
noncomputable def Y3:SC:=bB Tryz.f81
noncomputable def aH9:Nat → Code:=lpOf Tryz.f81
theorem aIh:aM (aX Tryz.f81) = true:=kr
theorem aJT:aA env L (n + 1) 81 args h = aD env (aA env L n) L h.length [] ([]) aH9 Y3 (args ++ List.replicate (Tryz.f81.ntmps - args.length) (.d .undef)) h (kFin env.P h.length false [.tmp 2]) :=
 aY (mode:=1) kr Tryz.func81 kr kr aIh kr kr
noncomputable def VR:SC:=bB Tryz.f82
noncomputable def HD:Nat → Code:=lpOf Tryz.f82
theorem aIg:aM (aX Tryz.f82) = true:=kr
theorem aA8:aA env L (n + 1) 82 args h = aD env (aA env L n) L h.length [] Bz29 HD VR (args ++ List.replicate (Tryz.f82.ntmps - args.length) (.d .undef)) h (kFin env.P h.length false [.tmp 6]) :=
 aY (mode:=1) kr Tryz.func82 kr kr aIg kr kr
noncomputable def B2:SC:=bL Tryz.f82 0
theorem AZ:aF env call L nf thaw live (HD 0) m (n + 1) s h k = aD env call L nf thaw live HD B2 s h (bK env call L nf thaw live (HD 0) m n k) :=
 aR aIg kr
noncomputable def aBZ:SC:=bB Tryz.f83
noncomputable def u1:Nat → Code:=lpOf Tryz.f83
theorem Y6:aM (aX Tryz.f83) = true:=kr
theorem aKz:aA env L (n + 1) 83 args h = aD env (aA env L n) L h.length [] Bz42 u1 aBZ (args ++ List.replicate (Tryz.f83.ntmps - args.length) (.d .undef)) h (kFin env.P h.length false [.tmp 2]) :=
 aY (mode:=2) kr Tryz.func83 kr kr Y6 kr kr
noncomputable def yE:SC:=bL Tryz.f83 0
theorem zA:aF env call L nf thaw live (u1 0) m (n + 1) s h k = aD env call L nf thaw live u1 yE s h (bK env call L nf thaw live (u1 0) m n k) :=
 aR Y6 kr
noncomputable def aJd:SC:=bB Tryz.f84
noncomputable def oQ:Nat → Code:=lpOf Tryz.f84
theorem XL:aM (aX Tryz.f84) = true:=kr
theorem aPm:aA env L (n + 1) 84 args h = aD env (aA env L n) L h.length [] Bz15 oQ aJd (args ++ List.replicate (Tryz.f84.ntmps - args.length) (.d .undef)) h (kFin env.P h.length false Tryz.f84.results.toList) :=
 aY (mode:=2) kr Tryz.func84 kr kr XL kr kr
noncomputable def G8:SC:=bL Tryz.f84 0
theorem FN:aF env call L nf thaw live (oQ 0) m (n + 1) s h k = aD env call L nf thaw live oQ G8 s h (bK env call L nf thaw live (oQ 0) m n k) :=
 aR XL kr
noncomputable def SY:SC:=bL Tryz.f84 1
theorem WM:aF env call L nf thaw live (oQ 1) m (n + 1) s h k = aD env call L nf thaw live oQ SY s h (bK env call L nf thaw live (oQ 1) m n k) :=
 aR XL kr
noncomputable def AS:SC:=bB Tryz.f85
noncomputable def aI6:Nat → Code:=lpOf Tryz.f85
theorem aHO:aM (aX Tryz.f85) = true:=kr
theorem GP:aA env L (n + 1) 85 args h = aD env (aA env L n) L h.length [] ([]) aI6 AS (args ++ List.replicate (Tryz.f85.ntmps - args.length) (.d .undef)) h (kFin env.P h.length false [.tmp 4,.tmp 5]) :=
 aY (mode:=1) kr Tryz.func85 kr kr aHO kr kr
noncomputable def sE:SC:=bB Tryz.f86
noncomputable def aHk:Nat → Code:=lpOf Tryz.f86
theorem aHr:aM (aX Tryz.f86) = true:=kr
theorem wJ:aA env L (n + 1) 86 args h = aD env (aA env L n) L h.length [] ([]) aHk sE (args ++ List.replicate (Tryz.f86.ntmps - args.length) (.d .undef)) h (kFin env.P h.length false [.tmp 6,.tmp 7]) :=
 aY (mode:=1) kr Tryz.func86 kr kr aHr kr kr
noncomputable def aCO:SC:=bB Tryz.f87
noncomputable def GE:Nat → Code:=lpOf Tryz.f87
theorem aJy:aM (aX Tryz.f87) = true:=kr
theorem aJE:aA env L (n + 1) 87 args h = aD env (aA env L n) L h.length [] Bz28 GE aCO (args ++ List.replicate (Tryz.f87.ntmps - args.length) (.d .undef)) h (kFin env.P h.length false [.tmp 4]) :=
 aY (mode:=1) kr Tryz.func87 kr kr aJy kr kr
noncomputable def LT:SC:=bL Tryz.f87 0
theorem J9:aF env call L nf thaw live (GE 0) m (n + 1) s h k = aD env call L nf thaw live GE LT s h (bK env call L nf thaw live (GE 0) m n k) :=
 aR aJy kr
noncomputable def aJN:SC:=bB Tryz.f88
noncomputable def aPB:Nat → Code:=lpOf Tryz.f88
theorem aPw:aM (aX Tryz.f88) = true:=kr
theorem aPG:aA env L (n + 1) 88 args h = aD env (aA env L n) L h.length [] ([]) aPB aJN (args ++ List.replicate (Tryz.f88.ntmps - args.length) (.d .undef)) h (kFin env.P h.length false [.tmp 2]) :=
 aY (mode:=1) kr Tryz.func88 kr kr aPw kr kr
noncomputable def aDH:SC:=bB Tryz.f89
noncomputable def w8:Nat → Code:=lpOf Tryz.f89
theorem aBt:aM (aX Tryz.f89) = true:=kr
theorem aMN:aA env L (n + 1) 89 args h = aD env (aA env L n) L h.length [] Bz48 w8 aDH (args ++ List.replicate (Tryz.f89.ntmps - args.length) (.d .undef)) h (kFin env.P h.length false [.tmp 4]) :=
 aY (mode:=1) kr Tryz.func89 kr kr aBt kr kr
noncomputable def uH:SC:=bL Tryz.f89 0
theorem tN:aF env call L nf thaw live (w8 0) m (n + 1) s h k = aD env call L nf thaw live w8 uH s h (bK env call L nf thaw live (w8 0) m n k) :=
 aR aBt kr
noncomputable def aPi:SC:=bB Tryz.f90
noncomputable def MI:Nat → Code:=lpOf Tryz.f90
theorem aKT:aM (aX Tryz.f90) = true:=kr
theorem aU2:aA env L (n + 1) 90 args h = aD env (aA env L n) L h.length [] Bz18 MI aPi (args ++ List.replicate (Tryz.f90.ntmps - args.length) (.d .undef)) h (kFin env.P h.length true [.tmp 2]) :=
 aY (mode:=2) kr Tryz.func90 kr kr aKT kr kr
noncomputable def aAU:SC:=bL Tryz.f90 0
theorem aBD:aF env call L nf thaw live (MI 0) m (n + 1) s h k = aD env call L nf thaw live MI aAU s h (bK env call L nf thaw live (MI 0) m n k) :=
 aR aKT kr
noncomputable def aBo:SC:=bB Tryz.f91
noncomputable def qR:Nat → Code:=lpOf Tryz.f91
theorem ZQ:aM (aX Tryz.f91) = true:=kr
theorem aKv:aA env L (n + 1) 91 args h = aD env (aA env L n) L h.length [0,0,0,2] Bz20 qR aBo (args ++ List.replicate (Tryz.f91.ntmps - args.length) (.d .undef)) h (kFin env.P h.length false [.tmp 2]) :=
 aY (mode:=2) kr Tryz.func91 kr kr ZQ kr kr
noncomputable def yG:SC:=bL Tryz.f91 0
theorem zP:aF env call L nf thaw live (qR 0) m (n + 1) s h k = aD env call L nf thaw live qR yG s h (bK env call L nf thaw live (qR 0) m n k) :=
 aR ZQ kr
noncomputable def aAb:SC:=bB Tryz.f92
noncomputable def aJR:Nat → Code:=lpOf Tryz.f92
theorem aI3:aM (aX Tryz.f92) = true:=kr
theorem aHz:aA env L (n + 1) 92 args h = aD env (aA env L n) L h.length [] ([]) aJR aAb (args ++ List.replicate (Tryz.f92.ntmps - args.length) (.d .undef)) h (kFin env.P h.length false [.tmp 2]) :=
 aY (mode:=1) kr Tryz.func92 kr kr aI3 kr kr
noncomputable def t7:SC:=bB Tryz.f95
noncomputable def kH:Nat → Code:=lpOf Tryz.f95
theorem CZ:aM (aX Tryz.f95) = true:=kr
theorem aBm:aA env L (n + 1) 95 args h = aD env (aA env L n) L h.length [] Bz27 kH t7 (args ++ List.replicate (Tryz.f95.ntmps - args.length) (.d .undef)) h (kFin env.P h.length false [.tmp 2]) :=
 aY (mode:=1) kr Tryz.func95 kr kr CZ kr kr
noncomputable def lZ:SC:=bL Tryz.f95 0
theorem BU:aF env call L nf thaw live (kH 0) m (n + 1) s h k = aD env call L nf thaw live kH lZ s h (bK env call L nf thaw live (kH 0) m n k) :=
 aR CZ kr
noncomputable def iP:SC:=bB Tryz.f96
noncomputable def M2:Nat → Code:=lpOf Tryz.f96
theorem NR:aM (aX Tryz.f96) = true:=kr
theorem zD:aA env L (n + 1) 96 args h = aD env (aA env L n) L h.length [] ([]) M2 iP (args ++ List.replicate (Tryz.f96.ntmps - args.length) (.d .undef)) h (kFin env.P h.length false [.tmp 4]) :=
 aY (mode:=1) kr Tryz.func96 kr kr NR kr kr
noncomputable def fM:SC:=bB Tryz.f97
noncomputable def E7:Nat → Code:=lpOf Tryz.f97
theorem EL:aM (aX Tryz.f97) = true:=kr
theorem u7:aA env L (n + 1) 97 args h = aD env (aA env L n) L h.length [] ([]) E7 fM (args ++ List.replicate (Tryz.f97.ntmps - args.length) (.d .undef)) h (kFin env.P h.length false [.tmp 4]) :=
 aY (mode:=1) kr Tryz.func97 kr kr EL kr kr
noncomputable def aNb:SC:=bB Tryz.f98
noncomputable def M0:Nat → Code:=lpOf Tryz.f98
theorem aLG:aM (aX Tryz.f98) = true:=kr
theorem aTr:aA env L (n + 1) 98 args h = aD env (aA env L n) L h.length [] Bz24 M0 aNb (args ++ List.replicate (Tryz.f98.ntmps - args.length) (.d .undef)) h (kFin env.P h.length false [.tmp 4]) :=
 aY (mode:=1) kr Tryz.func98 kr kr aLG kr kr
noncomputable def aAE:SC:=bL Tryz.f98 0
theorem aBW:aF env call L nf thaw live (M0 0) m (n + 1) s h k = aD env call L nf thaw live M0 aAE s h (bK env call L nf thaw live (M0 0) m n k) :=
 aR aLG kr
noncomputable def ZZ:SC:=bB Tryz.f100
noncomputable def aIY:Nat → Code:=lpOf Tryz.f100
theorem aIV:aM (aX Tryz.f100) = true:=kr
theorem aJD:aA env L (n + 1) 100 args h = aD env (aA env L n) L h.length [] ([]) aIY ZZ (args ++ List.replicate (Tryz.f100.ntmps - args.length) (.d .undef)) h (kFin env.P h.length false [.tmp 4]) :=
 aY (mode:=1) kr Tryz.func100 kr kr aIV kr kr
noncomputable def aBl:SC:=bB Tryz.f105
noncomputable def aKb:Nat → Code:=lpOf Tryz.f105
theorem aJ4:aM (aX Tryz.f105) = true:=kr
theorem aKN:aA env L (n + 1) 105 args h = aD env (aA env L n) L h.length [] ([]) aKb aBl (args ++ List.replicate (Tryz.f105.ntmps - args.length) (.d .undef)) h (kFin env.P h.length false [.tmp 4,.tmp 5]) :=
 aY (mode:=1) kr Tryz.func105 kr kr aJ4 kr kr
noncomputable def BW:SC:=bB Tryz.f106
noncomputable def aCY:Nat → Code:=lpOf Tryz.f106
theorem aCZ:aM (aX Tryz.f106) = true:=kr
theorem MH:aA env L (n + 1) 106 args h = aD env (aA env L n) L h.length [] ([]) aCY BW (args ++ List.replicate (Tryz.f106.ntmps - args.length) (.d .undef)) h (kFin env.P h.length false [.tmp 3]) :=
 aY (mode:=0) kr Tryz.func106 kr kr aCZ kr kr
noncomputable def MW:SC:=bB Tryz.f109
noncomputable def aCl:Nat → Code:=lpOf Tryz.f109
theorem aCt:aM (aX Tryz.f109) = true:=kr
theorem aCj:aA env L (n + 1) 109 args h = aD env (aA env L n) L h.length [] ([]) aCl MW (args ++ List.replicate (Tryz.f109.ntmps - args.length) (.d .undef)) h (kFin env.P h.length false [.tmp 4]) :=
 aY (mode:=0) kr Tryz.func109 kr kr aCt kr kr
noncomputable def oF:SC:=bB Tryz.f110
noncomputable def fQ:Nat → Code:=lpOf Tryz.f110
theorem tL:aM (aX Tryz.f110) = true:=kr
theorem tI:aA env L (n + 1) 110 args h = aD env (aA env L n) L h.length [] Bz43 fQ oF (args ++ List.replicate (Tryz.f110.ntmps - args.length) (.d .undef)) h (kFin env.P h.length false [.tmp 4]) :=
 aY (mode:=1) kr Tryz.func110 kr kr tL kr kr
noncomputable def i7:SC:=bL Tryz.f110 0
theorem lE:aF env call L nf thaw live (fQ 0) m (n + 1) s h k = aD env call L nf thaw live fQ i7 s h (bK env call L nf thaw live (fQ 0) m n k) :=
 aR tL kr
noncomputable def aFm:SC:=bB Tryz.f117
noncomputable def gJ:Nat → Code:=lpOf Tryz.f117
theorem G7:aM (aX Tryz.f117) = true:=kr
theorem aNX:aA env L (n + 1) 117 args h = aD env (aA env L n) L h.length [] Bz3 gJ aFm (args ++ List.replicate (Tryz.f117.ntmps - args.length) (.d .undef)) h (kFin env.P h.length false [.tmp 2]) :=
 aY (mode:=2) kr Tryz.func117 kr kr G7 kr kr
noncomputable def NY:SC:=bL Tryz.f117 0
theorem T1:aF env call L nf thaw live (gJ 0) m (n + 1) s h k = aD env call L nf thaw live gJ NY s h (bK env call L nf thaw live (gJ 0) m n k) :=
 aR G7 kr
noncomputable def OD:SC:=bL Tryz.f117 1
theorem S8:aF env call L nf thaw live (gJ 1) m (n + 1) s h k = aD env call L nf thaw live gJ OD s h (bK env call L nf thaw live (gJ 1) m n k) :=
 aR G7 kr
noncomputable def N3:SC:=bL Tryz.f117 2
theorem TI:aF env call L nf thaw live (gJ 2) m (n + 1) s h k = aD env call L nf thaw live gJ N3 s h (bK env call L nf thaw live (gJ 2) m n k) :=
 aR G7 kr
noncomputable def MO:SC:=bB Tryz.f118
noncomputable def aCi:Nat → Code:=lpOf Tryz.f118
theorem aCr:aM (aX Tryz.f118) = true:=kr
theorem aCp:aA env L (n + 1) 118 args h = aD env (aA env L n) L h.length [] ([]) aCi MO (args ++ List.replicate (Tryz.f118.ntmps - args.length) (.d .undef)) h (kFin env.P h.length false [.tmp 9]) :=
 aY (mode:=0) kr Tryz.func118 kr kr aCr kr kr
noncomputable def CW:SC:=bB Tryz.f119
noncomputable def eY:Nat → Code:=lpOf Tryz.f119
theorem A2:aM (aX Tryz.f119) = true:=kr
theorem KS:aA env L (n + 1) 119 args h = aD env (aA env L n) L h.length (W16 (W2 [2])) Bz2 eY CW (args ++ List.replicate (Tryz.f119.ntmps - args.length) (.d .undef)) h (kFin env.P h.length false [.tmp 10,.tmp 11]) :=
 aY (mode:=1) kr Tryz.func119 kr kr A2 kr kr
noncomputable def sY:SC:=bL Tryz.f119 0
theorem sF:aF env call L nf thaw live (eY 0) m (n + 1) s h k = aD env call L nf thaw live eY sY s h (bK env call L nf thaw live (eY 0) m n k) :=
 aR A2 kr
noncomputable def yW:SC:=bL Tryz.f119 1
theorem zG:aF env call L nf thaw live (eY 1) m (n + 1) s h k = aD env call L nf thaw live eY yW s h (bK env call L nf thaw live (eY 1) m n k) :=
 aR A2 kr
noncomputable def HJ:SC:=bL Tryz.f119 2
theorem ND:aF env call L nf thaw live (eY 2) m (n + 1) s h k = aD env call L nf thaw live eY HJ s h (bK env call L nf thaw live (eY 2) m n k) :=
 aR A2 kr
noncomputable def M3:SC:=bB Tryz.f120
noncomputable def aCd:Nat → Code:=lpOf Tryz.f120
theorem aCo:aM (aX Tryz.f120) = true:=kr
theorem aCf:aA env L (n + 1) 120 args h = aD env (aA env L n) L h.length [] ([]) aCd M3 (args ++ List.replicate (Tryz.f120.ntmps - args.length) (.d .undef)) h (kFin env.P h.length false [.tmp 6]) :=
 aY (mode:=0) kr Tryz.func120 kr kr aCo kr kr
noncomputable def aLD:SC:=bB Tryz.f123
noncomputable def aR2:Nat → Code:=lpOf Tryz.f123
theorem aRy:aM (aX Tryz.f123) = true:=kr
theorem aRY:aA env L (n + 1) 123 args h = aD env (aA env L n) L h.length [] ([]) aR2 aLD (args ++ List.replicate (Tryz.f123.ntmps - args.length) (.d .undef)) h (kFin env.P h.length false [.tmp 4]) :=
 aY (mode:=1) kr Tryz.func123 kr kr aRy kr kr
noncomputable def aGk:SC:=bB Tryz.f124
noncomputable def lC:Nat → Code:=lpOf Tryz.f124
theorem SU:aM (aX Tryz.f124) = true:=kr
theorem aOV:aA env L (n + 1) 124 args h = aD env (aA env L n) L h.length [] Bz25 lC aGk (args ++ List.replicate (Tryz.f124.ntmps - args.length) (.d .undef)) h (kFin env.P h.length false [.tmp 2]) :=
 aY (mode:=2) kr Tryz.func124 kr kr SU kr kr
noncomputable def N7:SC:=bL Tryz.f124 0
theorem SF:aF env call L nf thaw live (lC 0) m (n + 1) s h k = aD env call L nf thaw live lC N7 s h (bK env call L nf thaw live (lC 0) m n k) :=
 aR SU kr
noncomputable def DD:SC:=bL Tryz.f124 1
theorem DZ:aF env call L nf thaw live (lC 1) m (n + 1) s h k = aD env call L nf thaw live lC DD s h (bK env call L nf thaw live (lC 1) m n k) :=
 aR SU kr
noncomputable def aGf:SC:=bB Tryz.f125
noncomputable def y9:Nat → Code:=lpOf Tryz.f125
theorem aDn:aM (aX Tryz.f125) = true:=kr
theorem aNY:aA env L (n + 1) 125 args h = aD env (aA env L n) L h.length [] Bz58 y9 aGf (args ++ List.replicate (Tryz.f125.ntmps - args.length) (.d .undef)) h (kFin env.P h.length false [.tmp 4]) :=
 aY (mode:=1) kr Tryz.func125 kr kr aDn kr kr
noncomputable def OC:SC:=bL Tryz.f125 0
theorem RT:aF env call L nf thaw live (y9 0) m (n + 1) s h k = aD env call L nf thaw live y9 OC s h (bK env call L nf thaw live (y9 0) m n k) :=
 aR aDn kr
noncomputable def L5:SC:=bB Tryz.f126
noncomputable def aOg:Nat → Code:=lpOf Tryz.f126
theorem aNV:aM (aX Tryz.f126) = true:=kr
theorem R4:aA env L (n + 1) 126 args h = aD env (aA env L n) L h.length [] ([]) aOg L5 (args ++ List.replicate (Tryz.f126.ntmps - args.length) (.d .undef)) h (kFin env.P h.length false [.tmp 4]) :=
 aY (mode:=1) kr Tryz.func126 kr kr aNV kr kr
noncomputable def LQ:SC:=bB Tryz.f127
noncomputable def dK:Nat → Code:=lpOf Tryz.f127
theorem y7:aM (aX Tryz.f127) = true:=kr
theorem TP:aA env L (n + 1) 127 args h = aD env (aA env L n) L h.length [] Bz0 dK LQ (args ++ List.replicate (Tryz.f127.ntmps - args.length) (.d .undef)) h (kFin env.P h.length false [.tmp 2,.tmp 3]) :=
 aY (mode:=1) kr Tryz.func127 kr kr y7 kr kr
noncomputable def NW:SC:=bL Tryz.f127 0
theorem SR:aF env call L nf thaw live (dK 0) m (n + 1) s h k = aD env call L nf thaw live dK NW s h (bK env call L nf thaw live (dK 0) m n k) :=
 aR y7 kr
noncomputable def C7:SC:=bL Tryz.f127 1
theorem DL:aF env call L nf thaw live (dK 1) m (n + 1) s h k = aD env call L nf thaw live dK C7 s h (bK env call L nf thaw live (dK 1) m n k) :=
 aR y7 kr
noncomputable def xD:SC:=bL Tryz.f127 2
theorem wS:aF env call L nf thaw live (dK 2) m (n + 1) s h k = aD env call L nf thaw live dK xD s h (bK env call L nf thaw live (dK 2) m n k) :=
 aR y7 kr
noncomputable def xB:SC:=bL Tryz.f127 3
theorem vT:aF env call L nf thaw live (dK 3) m (n + 1) s h k = aD env call L nf thaw live dK xB s h (bK env call L nf thaw live (dK 3) m n k) :=
 aR y7 kr
noncomputable def AY:SC:=bB Tryz.f128
noncomputable def aIu:Nat → Code:=lpOf Tryz.f128
theorem aIw:aM (aX Tryz.f128) = true:=kr
theorem GB:aA env L (n + 1) 128 args h = aD env (aA env L n) L h.length [] ([]) aIu AY (args ++ List.replicate (Tryz.f128.ntmps - args.length) (.d .undef)) h (kFin env.P h.length false [.tmp 4]) :=
 aY (mode:=1) kr Tryz.func128 kr kr aIw kr kr
noncomputable def yJ:SC:=bB Tryz.f130
noncomputable def RY:Nat → Code:=lpOf Tryz.f130
theorem S5:aM (aX Tryz.f130) = true:=kr
theorem aG8:aA env L (n + 1) 130 args h = aD env (aA env L n) L h.length [] ([]) RY yJ (args ++ List.replicate (Tryz.f130.ntmps - args.length) (.d .undef)) h (kFin env.P h.length false [.tmp 2]) :=
 aY (mode:=1) kr Tryz.func130 kr kr S5 kr kr
noncomputable def sO:SC:=bB Tryz.f131
noncomputable def JW:Nat → Code:=lpOf Tryz.f131
theorem JB:aM (aX Tryz.f131) = true:=kr
theorem aCm:aA env L (n + 1) 131 args h = aD env (aA env L n) L h.length [] ([]) JW sO (args ++ List.replicate (Tryz.f131.ntmps - args.length) (.d .undef)) h (kFin env.P h.length false [.tmp 2]) :=
 aY (mode:=1) kr Tryz.func131 kr kr JB kr kr
noncomputable def YB:SC:=bB Tryz.f132
noncomputable def aHE:Nat → Code:=lpOf Tryz.f132
theorem aHU:aM (aX Tryz.f132) = true:=kr
theorem aJv:aA env L (n + 1) 132 args h = aD env (aA env L n) L h.length [] ([]) aHE YB (args ++ List.replicate (Tryz.f132.ntmps - args.length) (.d .undef)) h (kFin env.P h.length false [.tmp 4]) :=
 aY (mode:=1) kr Tryz.func132 kr kr aHU kr kr
noncomputable def aLe:SC:=bB Tryz.f133
noncomputable def G2:Nat → Code:=lpOf Tryz.f133
theorem aIO:aM (aX Tryz.f133) = true:=kr
theorem aQ1:aA env L (n + 1) 133 args h = aD env (aA env L n) L h.length [] Bz37 G2 aLe (args ++ List.replicate (Tryz.f133.ntmps - args.length) (.d .undef)) h (kFin env.P h.length false [.tmp 6]) :=
 aY (mode:=1) kr Tryz.func133 kr kr aIO kr kr
noncomputable def XM:SC:=bL Tryz.f133 0
theorem YM:aF env call L nf thaw live (G2 0) m (n + 1) s h k = aD env call L nf thaw live G2 XM s h (bK env call L nf thaw live (G2 0) m n k) :=
 aR aIO kr
noncomputable def RR:SC:=bB Tryz.f134
noncomputable def aEY:Nat → Code:=lpOf Tryz.f134
theorem aEZ:aM (aX Tryz.f134) = true:=kr
theorem aE4:aA env L (n + 1) 134 args h = aD env (aA env L n) L h.length [] ([]) aEY RR (args ++ List.replicate (Tryz.f134.ntmps - args.length) (.d .undef)) h (kFin env.P h.length false [.tmp 7]) :=
 aY (mode:=0) kr Tryz.func134 kr kr aEZ kr kr
noncomputable def vQ:SC:=bB Tryz.f151
noncomputable def m5:Nat → Code:=lpOf Tryz.f151
theorem O1:aM (aX Tryz.f151) = true:=kr
theorem BQ:aA env L (n + 1) 151 args h = aD env (aA env L n) L h.length (W8 (W2 [2])) Bz7 m5 vQ (args ++ List.replicate (Tryz.f151.ntmps - args.length) (.d .undef)) h (kFin env.P h.length false [.tmp 9]) :=
 aY (mode:=0) kr Tryz.func151 kr kr O1 kr kr
noncomputable def d8:SC:=bL Tryz.f151 0
theorem dT:aF env call L nf thaw live (m5 0) m (n + 1) s h k = aD env call L nf thaw live m5 d8 s h (bK env call L nf thaw live (m5 0) m n k) :=
 aR O1 kr
noncomputable def aEn:SC:=bB Tryz.f152
noncomputable def w4:Nat → Code:=lpOf Tryz.f152
theorem aB8:aM (aX Tryz.f152) = true:=kr
theorem aM1:aA env L (n + 1) 152 args h = aD env (aA env L n) L h.length [0,0,0,2] Bz33 w4 aEn (args ++ List.replicate (Tryz.f152.ntmps - args.length) (.d .undef)) h (kFin env.P h.length false [.tmp 2]) :=
 aY (mode:=1) kr Tryz.func152 kr kr aB8 kr kr
noncomputable def KM:SC:=bL Tryz.f152 0
theorem PD:aF env call L nf thaw live (w4 0) m (n + 1) s h k = aD env call L nf thaw live w4 KM s h (bK env call L nf thaw live (w4 0) m n k) :=
 aR aB8 kr
noncomputable def aGE:SC:=bB Tryz.f153
noncomputable def NA:Nat → Code:=lpOf Tryz.f153
theorem aLd:aM (aX Tryz.f153) = true:=kr
theorem aLN:aA env L (n + 1) 153 args h = aD env (aA env L n) L h.length [] Bz28 NA aGE (args ++ List.replicate (Tryz.f153.ntmps - args.length) (.d .undef)) h (kFin env.P h.length false [.tmp 4]) :=
 aY (mode:=1) kr Tryz.func153 kr kr aLd kr kr
noncomputable def QC:SC:=bL Tryz.f153 0
theorem N5:aF env call L nf thaw live (NA 0) m (n + 1) s h k = aD env call L nf thaw live NA QC s h (bK env call L nf thaw live (NA 0) m n k) :=
 aR aLd kr
noncomputable def aGc:SC:=bB Tryz.f154
noncomputable def mG:Nat → Code:=lpOf Tryz.f154
theorem Q9:aM (aX Tryz.f154) = true:=kr
theorem aNW:aA env L (n + 1) 154 args h = aD env (aA env L n) L h.length [] Bz32 mG aGc (args ++ List.replicate (Tryz.f154.ntmps - args.length) (.d .undef)) h (kFin env.P h.length false [.tmp 2]) :=
 aY (mode:=2) kr Tryz.func154 kr kr Q9 kr kr
noncomputable def NZ:SC:=bL Tryz.f154 0
theorem SM:aF env call L nf thaw live (mG 0) m (n + 1) s h k = aD env call L nf thaw live mG NZ s h (bK env call L nf thaw live (mG 0) m n k) :=
 aR Q9 kr
noncomputable def OF:SC:=bL Tryz.f154 1
theorem R0:aF env call L nf thaw live (mG 1) m (n + 1) s h k = aD env call L nf thaw live mG OF s h (bK env call L nf thaw live (mG 1) m n k) :=
 aR Q9 kr
noncomputable def aF0:SC:=bB Tryz.f155
noncomputable def mH:Nat → Code:=lpOf Tryz.f155
theorem SW:aM (aX Tryz.f155) = true:=kr
theorem aOc:aA env L (n + 1) 155 args h = aD env (aA env L n) L h.length [] Bz12 mH aF0 (args ++ List.replicate (Tryz.f155.ntmps - args.length) (.d .undef)) h (kFin env.P h.length false [.tmp 6]) :=
 aY (mode:=2) kr Tryz.func155 kr kr SW kr kr
noncomputable def NV:SC:=bL Tryz.f155 0
theorem Q6:aF env call L nf thaw live (mH 0) m (n + 1) s h k = aD env call L nf thaw live mH NV s h (bK env call L nf thaw live (mH 0) m n k) :=
 aR SW kr
noncomputable def N4:SC:=bL Tryz.f155 1
theorem SH:aF env call L nf thaw live (mH 1) m (n + 1) s h k = aD env call L nf thaw live mH N4 s h (bK env call L nf thaw live (mH 1) m n k) :=
 aR SW kr
noncomputable def s8:SC:=bB Tryz.f156
noncomputable def aNx:Nat → Code:=lpOf Tryz.f156
theorem aOX:aM (aX Tryz.f156) = true:=kr
theorem uD:aA env L (n + 1) 156 args h = aD env (aA env L n) L h.length [] (Z2 (U1 (Z2 (Z1 (U2 (Z32 (Z16 (Z8 ([]))))))))) aNx s8 (args ++ List.replicate (Tryz.f156.ntmps - args.length) (.d .undef)) h (kFin env.P h.length false [.tmp 6]) :=
 aY (mode:=1) kr Tryz.func156 kr kr aOX kr kr
noncomputable def aDO:SC:=bB Tryz.f157
noncomputable def w6:Nat → Code:=lpOf Tryz.f157
theorem aBX:aM (aX Tryz.f157) = true:=kr
theorem aMZ:aA env L (n + 1) 157 args h = aD env (aA env L n) L h.length [] Bz40 w6 aDO (args ++ List.replicate (Tryz.f157.ntmps - args.length) (.d .undef)) h (kFin env.P h.length false [.tmp 4]) :=
 aY (mode:=2) kr Tryz.func157 kr kr aBX kr kr
noncomputable def KL:SC:=bL Tryz.f157 0
theorem OJ:aF env call L nf thaw live (w6 0) m (n + 1) s h k = aD env call L nf thaw live w6 KL s h (bK env call L nf thaw live (w6 0) m n k) :=
 aR aBX kr
noncomputable def aJS:SC:=bB Tryz.f158
noncomputable def mF:Nat → Code:=lpOf Tryz.f158
theorem WZ:aM (aX Tryz.f158) = true:=kr
theorem aPz:aA env L (n + 1) 158 args h = aD env (aA env L n) L h.length [] Bz14 mF aJS (args ++ List.replicate (Tryz.f158.ntmps - args.length) (.d .undef)) h (kFin env.P h.length false []) :=
 aY (mode:=0) kr Tryz.func158 kr kr WZ kr kr
noncomputable def HW:SC:=bL Tryz.f158 0
theorem HU:aF env call L nf thaw live (mF 0) m (n + 1) s h k = aD env call L nf thaw live mF HW s h (bK env call L nf thaw live (mF 0) m n k) :=
 aR WZ kr
noncomputable def zX:SC:=bL Tryz.f158 1
theorem x8:aF env call L nf thaw live (mF 1) m (n + 1) s h k = aD env call L nf thaw live mF zX s h (bK env call L nf thaw live (mF 1) m n k) :=
 aR WZ kr
noncomputable def aDK:SC:=bB Tryz.f159
noncomputable def w9:Nat → Code:=lpOf Tryz.f159
theorem aBp:aM (aX Tryz.f159) = true:=kr
theorem aMV:aA env L (n + 1) 159 args h = aD env (aA env L n) L h.length [] Bz49 w9 aDK (args ++ List.replicate (Tryz.f159.ntmps - args.length) (.d .undef)) h (kFin env.P h.length false [.tmp 4]) :=
 aY (mode:=1) kr Tryz.func159 kr kr aBp kr kr
noncomputable def KG:SC:=bL Tryz.f159 0
theorem PS:aF env call L nf thaw live (w9 0) m (n + 1) s h k = aD env call L nf thaw live w9 KG s h (bK env call L nf thaw live (w9 0) m n k) :=
 aR aBp kr
noncomputable def aC3:SC:=bB Tryz.f160
noncomputable def lF:Nat → Code:=lpOf Tryz.f160
theorem N6:aM (aX Tryz.f160) = true:=kr
theorem aMP:aA env L (n + 1) 160 args h = aD env (aA env L n) L h.length [] Bz16 lF aC3 (args ++ List.replicate (Tryz.f160.ntmps - args.length) (.d .undef)) h (kFin env.P h.length false [.tmp 10]) :=
 aY (mode:=2) kr Tryz.func160 kr kr N6 kr kr
noncomputable def K3:SC:=bL Tryz.f160 0
theorem OY:aF env call L nf thaw live (lF 0) m (n + 1) s h k = aD env call L nf thaw live lF K3 s h (bK env call L nf thaw live (lF 0) m n k) :=
 aR N6 kr
noncomputable def vD:SC:=bL Tryz.f160 1
theorem tU:aF env call L nf thaw live (lF 1) m (n + 1) s h k = aD env call L nf thaw live lF vD s h (bK env call L nf thaw live (lF 1) m n k) :=
 aR N6 kr
noncomputable def CY:SC:=bB Tryz.f161
noncomputable def uB:Nat → Code:=lpOf Tryz.f161
theorem X9:aM (aX Tryz.f161) = true:=kr
theorem LG:aA env L (n + 1) 161 args h = aD env (aA env L n) L h.length [] Bz50 uB CY (args ++ List.replicate (Tryz.f161.ntmps - args.length) (.d .undef)) h (kFin env.P h.length false [.tmp 2]) :=
 aY (mode:=1) kr Tryz.func161 kr kr X9 kr kr
noncomputable def sN:SC:=bL Tryz.f161 0
theorem sX:aF env call L nf thaw live (uB 0) m (n + 1) s h k = aD env call L nf thaw live uB sN s h (bK env call L nf thaw live (uB 0) m n k) :=
 aR X9 kr
noncomputable def Z6:SC:=bB Tryz.f162
noncomputable def sU:Nat → Code:=lpOf Tryz.f162
theorem VO:aM (aX Tryz.f162) = true:=kr
theorem aIp:aA env L (n + 1) 162 args h = aD env (aA env L n) L h.length [] (U1 (Z1 (U4 (Z16 ([]))))) sU Z6 (args ++ List.replicate (Tryz.f162.ntmps - args.length) (.d .undef)) h (kFin env.P h.length false [.tmp 2,.tmp 3]) :=
 aY (mode:=1) kr Tryz.func162 kr kr VO kr kr
noncomputable def DF:SC:=bL Tryz.f162 0
theorem I7:aF env call L nf thaw live (sU 0) m (n + 1) s h k = aD env call L nf thaw live sU DF s h (bK env call L nf thaw live (sU 0) m n k) :=
 aR VO kr
noncomputable def aHu:SC:=bB Tryz.f163
noncomputable def aUu:Nat → Code:=lpOf Tryz.f163
theorem aVL:aM (aX Tryz.f163) = true:=kr
theorem aMD:aA env L (n + 1) 163 args h = aD env (aA env L n) L h.length [] ([]) aUu aHu (args ++ List.replicate (Tryz.f163.ntmps - args.length) (.d .undef)) h (kFin env.P h.length false [.tmp 6]) :=
 aY (mode:=1) kr Tryz.func163 kr kr aVL kr kr
noncomputable def aOr:SC:=bB Tryz.f164
noncomputable def aTw:Nat → Code:=lpOf Tryz.f164
theorem aTG:aM (aX Tryz.f164) = true:=kr
theorem aSX:aA env L (n + 1) 164 args h = aD env (aA env L n) L h.length [] ([]) aTw aOr (args ++ List.replicate (Tryz.f164.ntmps - args.length) (.d .undef)) h (kFin env.P h.length false [.tmp 4]) :=
 aY (mode:=1) kr Tryz.func164 kr kr aTG kr kr
noncomputable def xF:SC:=bB Tryz.f174
noncomputable def fE:Nat → Code:=lpOf Tryz.f174
theorem vL:aM (aX Tryz.f174) = true:=kr
theorem M5:aA env L (n + 1) 174 args h = aD env (aA env L n) L h.length [] Bz34 fE xF (args ++ List.replicate (Tryz.f174.ntmps - args.length) (.d .undef)) h (kFin env.P h.length false []) :=
 aY (mode:=0) kr Tryz.func174 kr kr vL kr kr
noncomputable def kO:SC:=bL Tryz.f174 0
theorem l8:aF env call L nf thaw live (fE 0) m (n + 1) s h k = aD env call L nf thaw live fE kO s h (bK env call L nf thaw live (fE 0) m n k) :=
 aR vL kr
noncomputable def aFP:SC:=bB Tryz.f175
noncomputable def gN:Nat → Code:=lpOf Tryz.f175
theorem HZ:aM (aX Tryz.f175) = true:=kr
theorem aO9:aA env L (n + 1) 175 args h = aD env (aA env L n) L h.length [] Bz5 gN aFP (args ++ List.replicate (Tryz.f175.ntmps - args.length) (.d .undef)) h (kFin env.P h.length false [.tmp 8]) :=
 aY (mode:=2) kr Tryz.func175 kr kr HZ kr kr
noncomputable def N2:SC:=bL Tryz.f175 0
theorem RZ:aF env call L nf thaw live (gN 0) m (n + 1) s h k = aD env call L nf thaw live gN N2 s h (bK env call L nf thaw live (gN 0) m n k) :=
 aR HZ kr
noncomputable def NX:SC:=bL Tryz.f175 1
theorem TX:aF env call L nf thaw live (gN 1) m (n + 1) s h k = aD env call L nf thaw live gN NX s h (bK env call L nf thaw live (gN 1) m n k) :=
 aR HZ kr
noncomputable def OB:SC:=bL Tryz.f175 2
theorem R6:aF env call L nf thaw live (gN 2) m (n + 1) s h k = aD env call L nf thaw live gN OB s h (bK env call L nf thaw live (gN 2) m n k) :=
 aR HZ kr
noncomputable def aNf:SC:=bB Tryz.f176
noncomputable def aVI:Nat → Code:=lpOf Tryz.f176
theorem aUP:aM (aX Tryz.f176) = true:=kr
theorem aTF:aA env L (n + 1) 176 args h = aD env (aA env L n) L h.length [] ([]) aVI aNf (args ++ List.replicate (Tryz.f176.ntmps - args.length) (.d .undef)) h (kFin env.P h.length false [.tmp 6]) :=
 aY (mode:=1) kr Tryz.func176 kr kr aUP kr kr
noncomputable def aBh:SC:=bB Tryz.f177
noncomputable def oM:Nat → Code:=lpOf Tryz.f177
theorem W6:aM (aX Tryz.f177) = true:=kr
theorem aGi:aA env L (n + 1) 177 args h = aD env (aA env L n) L h.length [] Bz13 oM aBh (args ++ List.replicate (Tryz.f177.ntmps - args.length) (.d .undef)) h (kFin env.P h.length false [.tmp 6]) :=
 aY (mode:=1) kr Tryz.func177 kr kr W6 kr kr
noncomputable def HK:SC:=bL Tryz.f177 0
theorem HC:aF env call L nf thaw live (oM 0) m (n + 1) s h k = aD env call L nf thaw live oM HK s h (bK env call L nf thaw live (oM 0) m n k) :=
 aR W6 kr
noncomputable def FY:SC:=bL Tryz.f177 1
theorem H9:aF env call L nf thaw live (oM 1) m (n + 1) s h k = aD env call L nf thaw live oM FY s h (bK env call L nf thaw live (oM 1) m n k) :=
 aR W6 kr
noncomputable def aLy:SC:=bB Tryz.f178
noncomputable def aRc:Nat → Code:=lpOf Tryz.f178
theorem aRq:aM (aX Tryz.f178) = true:=kr
theorem aSl:aA env L (n + 1) 178 args h = aD env (aA env L n) L h.length [] ([]) aRc aLy (args ++ List.replicate (Tryz.f178.ntmps - args.length) (.d .undef)) h (kFin env.P h.length false [.tmp 2]) :=
 aY (mode:=1) kr Tryz.func178 kr kr aRq kr kr
noncomputable def aFN:SC:=bB Tryz.f179
noncomputable def AB:Nat → Code:=lpOf Tryz.f179
theorem aCu:aM (aX Tryz.f179) = true:=kr
theorem aPg:aA env L (n + 1) 179 args h = aD env (aA env L n) L h.length [] Bz44 AB aFN (args ++ List.replicate (Tryz.f179.ntmps - args.length) (.d .undef)) h (kFin env.P h.length false [.tmp 4]) :=
 aY (mode:=1) kr Tryz.func179 kr kr aCu kr kr
noncomputable def DC:SC:=bL Tryz.f179 0
theorem DT:aF env call L nf thaw live (AB 0) m (n + 1) s h k = aD env call L nf thaw live AB DC s h (bK env call L nf thaw live (AB 0) m n k) :=
 aR aCu kr
noncomputable def aBj:SC:=bB Tryz.f182
noncomputable def aKu:Nat → Code:=lpOf Tryz.f182
theorem aKA:aM (aX Tryz.f182) = true:=kr
theorem aKd:aA env L (n + 1) 182 args h = aD env (aA env L n) L h.length [] (Z2 (U2 (Z4 (U4 (Z32 (Z32 (Z2 (Z1 ([]))))))))) aKu aBj (args ++ List.replicate (Tryz.f182.ntmps - args.length) (.d .undef)) h (kFin env.P h.length false [.tmp 8]) :=
 aY (mode:=2) kr Tryz.func182 kr kr aKA kr kr
end
end Ev
end Go.Proofs.YtejmccgfigiadaaGreat
