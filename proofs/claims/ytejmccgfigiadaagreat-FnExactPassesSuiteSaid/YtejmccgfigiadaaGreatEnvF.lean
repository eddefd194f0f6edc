/-
  Each function's code as an equation. Written by a program.
-/
import Derived.Test.YtejmccgfigiadaaGreatEnv
set_option maxRecDepth 100000
namespace Go.Proofs.YtejmccgfigiadaaGreat
namespace Ev
section
variable {R:Type} {call:bE} {L nf n:Nat} {thaw:List Nat} {live m:List Bool} {s args:List A} {h:H} {k:KE R}
noncomputable def iE:SC:=aQ Tryz.f5
noncomputable def GE:Nat → Code:=lpOf Tryz.f5
theorem FY:aI (aL Tryz.f5) = true:=kr
theorem kU:aA env L (n + 1) 5 args h = aC env (aA env L n) L h.length [] ([]) GE iE (args ++ List.replicate (Tryz.f5.ntmps - args.length) (.d .undef)) h (kFin env.P h.length false [.tmp 6]) :=
 aO (mode:=1) kr Tryz.func5 kr kr FY kr kr
noncomputable def qU:SC:=aQ Tryz.f12
noncomputable def aAe:Nat → Code:=lpOf Tryz.f12
theorem Z0:aI (aL Tryz.f12) = true:=kr
theorem vL:aA env L (n + 1) 12 args h = aC env (aA env L n) L h.length [] ([]) aAe qU (args ++ List.replicate (Tryz.f12.ntmps - args.length) (.d .undef)) h (kFin env.P h.length false [.tmp 4]) :=
 aO (mode:=1) kr Tryz.func12 kr kr Z0 kr kr
noncomputable def i8:SC:=aQ Tryz.f13
noncomputable def cK:Nat → Code:=lpOf Tryz.f13
theorem oT:aI (aL Tryz.f13) = true:=kr
theorem kO:aA env L (n + 1) 13 args h = aC env (aA env L n) L h.length [] Bz8 cK i8 (args ++ List.replicate (Tryz.f13.ntmps - args.length) (.d .undef)) h (kFin env.P h.length false [.tmp 4,.tmp 5]) :=
 aO (mode:=2) kr Tryz.func13 kr kr oT kr kr
noncomputable def m6:SC:=a7 Tryz.f13 0
theorem nZ:aF env call L nf thaw live (cK 0) m (n + 1) s h k = aC env call L nf thaw live cK m6 s h (a6 env call L nf thaw live (cK 0) m n k) :=
 aK oT kr
noncomputable def m9:SC:=a7 Tryz.f13 1
theorem oI:aF env call L nf thaw live (cK 1) m (n + 1) s h k = aC env call L nf thaw live cK m9 s h (a6 env call L nf thaw live (cK 1) m n k) :=
 aK oT kr
noncomputable def m3:SC:=a7 Tryz.f13 2
theorem oL:aF env call L nf thaw live (cK 2) m (n + 1) s h k = aC env call L nf thaw live cK m3 s h (a6 env call L nf thaw live (cK 2) m n k) :=
 aK oT kr
noncomputable def KD:SC:=aQ Tryz.f14
noncomputable def YR:Nat → Code:=lpOf Tryz.f14
theorem ZF:aI (aL Tryz.f14) = true:=kr
theorem ZH:aA env L (n + 1) 14 args h = aC env (aA env L n) L h.length [] ([]) YR KD (args ++ List.replicate (Tryz.f14.ntmps - args.length) (.d .undef)) h (kFin env.P h.length true Tryz.f14.results.toList) :=
 aO (mode:=2) kr Tryz.func14 kr kr ZF kr kr
noncomputable def i7:SC:=aQ Tryz.f15
noncomputable def cH:Nat → Code:=lpOf Tryz.f15
theorem pJ:aI (aL Tryz.f15) = true:=kr
theorem kK:aA env L (n + 1) 15 args h = aC env (aA env L n) L h.length [] Bz1 cH i7 (args ++ List.replicate (Tryz.f15.ntmps - args.length) (.d .undef)) h (kFin env.P h.length true [.tmp 4,.tmp 5]) :=
 aO (mode:=3) kr Tryz.func15 kr kr pJ kr kr
noncomputable def nJ:SC:=a7 Tryz.f15 0
theorem oH:aF env call L nf thaw live (cH 0) m (n + 1) s h k = aC env call L nf thaw live cH nJ s h (a6 env call L nf thaw live (cH 0) m n k) :=
 aK pJ kr
noncomputable def nB:SC:=a7 Tryz.f15 1
theorem n9:aF env call L nf thaw live (cH 1) m (n + 1) s h k = aC env call L nf thaw live cH nB s h (a6 env call L nf thaw live (cH 1) m n k) :=
 aK pJ kr
noncomputable def uF:SC:=a7 Tryz.f15 2
theorem xN:aF env call L nf thaw live (cH 2) m (n + 1) s h k = aC env call L nf thaw live cH uF s h (a6 env call L nf thaw live (cH 2) m n k) :=
 aK pJ kr
noncomputable def J0:SC:=aQ Tryz.f17
noncomputable def ZR:Nat → Code:=lpOf Tryz.f17
theorem YO:aI (aL Tryz.f17) = true:=kr
theorem ZP:aA env L (n + 1) 17 args h = aC env (aA env L n) L h.length [] ([]) ZR J0 (args ++ List.replicate (Tryz.f17.ntmps - args.length) (.d .undef)) h (kFin env.P h.length false [.tmp 4]) :=
 aO (mode:=1) kr Tryz.func17 kr kr YO kr kr
noncomputable def iT:SC:=aQ Tryz.f21
noncomputable def hZ:Nat → Code:=lpOf Tryz.f21
theorem y3:aI (aL Tryz.f21) = true:=kr
theorem kD:aA env L (n + 1) 21 args h = aC env (aA env L n) L h.length [] Bz22 hZ iT (args ++ List.replicate (Tryz.f21.ntmps - args.length) (.d .undef)) h (kFin env.P h.length false [.tmp 6,.tmp 7]) :=
 aO (mode:=1) kr Tryz.func21 kr kr y3 kr kr
noncomputable def jC:SC:=a7 Tryz.f21 0
theorem k4:aF env call L nf thaw live (hZ 0) m (n + 1) s h k = aC env call L nf thaw live hZ jC s h (a6 env call L nf thaw live (hZ 0) m n k) :=
 aK y3 kr
noncomputable def iN:SC:=aQ Tryz.f22
noncomputable def hU:Nat → Code:=lpOf Tryz.f22
theorem y6:aI (aL Tryz.f22) = true:=kr
theorem j9:aA env L (n + 1) 22 args h = aC env (aA env L n) L h.length [] Bz23 hU iN (args ++ List.replicate (Tryz.f22.ntmps - args.length) (.d .undef)) h (kFin env.P h.length false [.tmp 6,.tmp 7]) :=
 aO (mode:=1) kr Tryz.func22 kr kr y6 kr kr
noncomputable def jN:SC:=a7 Tryz.f22 0
theorem kQ:aF env call L nf thaw live (hU 0) m (n + 1) s h k = aC env call L nf thaw live hU jN s h (a6 env call L nf thaw live (hU 0) m n k) :=
 aK y6 kr
noncomputable def m5:SC:=aQ Tryz.f23
noncomputable def RS:Nat → Code:=lpOf Tryz.f23
theorem RR:aI (aL Tryz.f23) = true:=kr
theorem rX:aA env L (n + 1) 23 args h = aC env (aA env L n) L h.length [] ([]) RS m5 (args ++ List.replicate (Tryz.f23.ntmps - args.length) (.d .undef)) h (kFin env.P h.length false [.tmp 6]) :=
 aO (mode:=1) kr Tryz.func23 kr kr RR kr kr
noncomputable def m7:SC:=aQ Tryz.f24
noncomputable def TP:Nat → Code:=lpOf Tryz.f24
theorem TF:aI (aL Tryz.f24) = true:=kr
theorem rH:aA env L (n + 1) 24 args h = aC env (aA env L n) L h.length [] ([]) TP m7 (args ++ List.replicate (Tryz.f24.ntmps - args.length) (.d .undef)) h (kFin env.P h.length false [.tmp 6]) :=
 aO (mode:=1) kr Tryz.func24 kr kr TF kr kr
noncomputable def kG:SC:=aQ Tryz.f28
noncomputable def jF:Nat → Code:=lpOf Tryz.f28
theorem DO:aI (aL Tryz.f28) = true:=kr
theorem nF:aA env L (n + 1) 28 args h = aC env (aA env L n) L h.length [] Bz35 jF kG (args ++ List.replicate (Tryz.f28.ntmps - args.length) (.d .undef)) h (kFin env.P h.length false [.tmp 4]) :=
 aO (mode:=1) kr Tryz.func28 kr kr DO kr kr
noncomputable def lT:SC:=a7 Tryz.f28 0
theorem mX:aF env call L nf thaw live (jF 0) m (n + 1) s h k = aC env call L nf thaw live jF lT s h (a6 env call L nf thaw live (jF 0) m n k) :=
 aK DO kr
noncomputable def GR:SC:=aQ Tryz.f30
noncomputable def jD:Nat → Code:=lpOf Tryz.f30
theorem EH:aI (aL Tryz.f30) = true:=kr
theorem XD:aA env L (n + 1) 30 args h = aC env (aA env L n) L h.length [0,0,0,2] Bz38 jD GR (args ++ List.replicate (Tryz.f30.ntmps - args.length) (.d .undef)) h (kFin env.P h.length true [.tmp 2]) :=
 aO (mode:=3) kr Tryz.func30 kr kr EH kr kr
noncomputable def l3:SC:=a7 Tryz.f30 0
theorem mZ:aF env call L nf thaw live (jD 0) m (n + 1) s h k = aC env call L nf thaw live jD l3 s h (a6 env call L nf thaw live (jD 0) m n k) :=
 aK EH kr
noncomputable def u6:SC:=aQ Tryz.f31
noncomputable def cE:Nat → Code:=lpOf Tryz.f31
theorem lG:aI (aL Tryz.f31) = true:=kr
theorem IF:aA env L (n + 1) 31 args h = aC env (aA env L n) L h.length [] Bz11 cE u6 (args ++ List.replicate (Tryz.f31.ntmps - args.length) (.d .undef)) h (kFin env.P h.length true [.tmp 2]) :=
 aO (mode:=3) kr Tryz.func31 kr kr lG kr kr
noncomputable def kJ:SC:=a7 Tryz.f31 0
theorem oE:aF env call L nf thaw live (cE 0) m (n + 1) s h k = aC env call L nf thaw live cE kJ s h (a6 env call L nf thaw live (cE 0) m n k) :=
 aK lG kr
noncomputable def eT:SC:=a7 Tryz.f31 1
theorem e9:aF env call L nf thaw live (cE 1) m (n + 1) s h k = aC env call L nf thaw live cE eT s h (a6 env call L nf thaw live (cE 1) m n k) :=
 aK lG kr
noncomputable def CY:SC:=aQ Tryz.f36
noncomputable def T1:Nat → Code:=lpOf Tryz.f36
theorem RQ:aI (aL Tryz.f36) = true:=kr
theorem SJ:aA env L (n + 1) 36 args h = aC env (aA env L n) L h.length [] ([]) T1 CY (args ++ List.replicate (Tryz.f36.ntmps - args.length) (.d .undef)) h (kFin env.P h.length false [.tmp 4]) :=
 aO (mode:=1) kr Tryz.func36 kr kr RQ kr kr
noncomputable def EP:SC:=aQ Tryz.f39
noncomputable def tQ:Nat → Code:=lpOf Tryz.f39
theorem YG:aI (aL Tryz.f39) = true:=kr
theorem HT:aA env L (n + 1) 39 args h = aC env (aA env L n) L h.length [] Bz17 tQ EP (args ++ List.replicate (Tryz.f39.ntmps - args.length) (.d .undef)) h (kFin env.P h.length false [.tmp 4]) :=
 aO (mode:=1) kr Tryz.func39 kr kr YG kr kr
noncomputable def wJ:SC:=a7 Tryz.f39 0
theorem vX:aF env call L nf thaw live (tQ 0) m (n + 1) s h k = aC env call L nf thaw live tQ wJ s h (a6 env call L nf thaw live (tQ 0) m n k) :=
 aK YG kr
noncomputable def NO:SC:=aQ Tryz.f40
noncomputable def aHg:Nat → Code:=lpOf Tryz.f40
theorem aGr:aI (aL Tryz.f40) = true:=kr
theorem XI:aA env L (n + 1) 40 args h = aC env (aA env L n) L h.length [] ([]) aHg NO (args ++ List.replicate (Tryz.f40.ntmps - args.length) (.d .undef)) h (kFin env.P h.length false [.tmp 4]) :=
 aO (mode:=1) kr Tryz.func40 kr kr aGr kr kr
noncomputable def d6:SC:=aQ Tryz.f41
noncomputable def gA:Nat → Code:=lpOf Tryz.f41
theorem u5:aI (aL Tryz.f41) = true:=kr
theorem eG:aA env L (n + 1) 41 args h = aC env (aA env L n) L h.length [] Bz44 gA d6 (args ++ List.replicate (Tryz.f41.ntmps - args.length) (.d .undef)) h (kFin env.P h.length false [.tmp 2]) :=
 aO (mode:=1) kr Tryz.func41 kr kr u5 kr kr
noncomputable def iB:SC:=a7 Tryz.f41 0
theorem iZ:aF env call L nf thaw live (gA 0) m (n + 1) s h k = aC env call L nf thaw live gA iB s h (a6 env call L nf thaw live (gA 0) m n k) :=
 aK u5 kr
noncomputable def vU:SC:=aQ Tryz.f42
noncomputable def jR:Nat → Code:=lpOf Tryz.f42
theorem CR:aI (aL Tryz.f42) = true:=kr
theorem CQ:aA env L (n + 1) 42 args h = aC env (aA env L n) L h.length [] Bz52 jR vU (args ++ List.replicate (Tryz.f42.ntmps - args.length) (.d .undef)) h (kFin env.P h.length false [.tmp 2]) :=
 aO (mode:=2) kr Tryz.func42 kr kr CR kr kr
noncomputable def r8:SC:=a7 Tryz.f42 0
theorem uR:aF env call L nf thaw live (jR 0) m (n + 1) s h k = aC env call L nf thaw live jR r8 s h (a6 env call L nf thaw live (jR 0) m n k) :=
 aK CR kr
noncomputable def mT:SC:=aQ Tryz.f43
noncomputable def cD:Nat → Code:=lpOf Tryz.f43
theorem lH:aI (aL Tryz.f43) = true:=kr
theorem t6:aA env L (n + 1) 43 args h = aC env (aA env L n) L h.length [] Bz29 cD mT (args ++ List.replicate (Tryz.f43.ntmps - args.length) (.d .undef)) h (kFin env.P h.length false [.tmp 2]) :=
 aO (mode:=2) kr Tryz.func43 kr kr lH kr kr
noncomputable def kI:SC:=a7 Tryz.f43 0
theorem nU:aF env call L nf thaw live (cD 0) m (n + 1) s h k = aC env call L nf thaw live cD kI s h (a6 env call L nf thaw live (cD 0) m n k) :=
 aK lH kr
noncomputable def eU:SC:=a7 Tryz.f43 1
theorem fO:aF env call L nf thaw live (cD 1) m (n + 1) s h k = aC env call L nf thaw live cD eU s h (a6 env call L nf thaw live (cD 1) m n k) :=
 aK lH kr
noncomputable def JY:SC:=aQ Tryz.f44
noncomputable def dQ:Nat → Code:=lpOf Tryz.f44
theorem vT:aI (aL Tryz.f44) = true:=kr
theorem aAh:aA env L (n + 1) 44 args h = aC env (aA env L n) L h.length [] Bz9 dQ JY (args ++ List.replicate (Tryz.f44.ntmps - args.length) (.d .undef)) h (kFin env.P h.length false [.tmp 4]) :=
 aO (mode:=2) kr Tryz.func44 kr kr vT kr kr
noncomputable def nK:SC:=a7 Tryz.f44 0
theorem oB:aF env call L nf thaw live (dQ 0) m (n + 1) s h k = aC env call L nf thaw live dQ nK s h (a6 env call L nf thaw live (dQ 0) m n k) :=
 aK vT kr
noncomputable def tN:SC:=a7 Tryz.f44 1
theorem xV:aF env call L nf thaw live (dQ 1) m (n + 1) s h k = aC env call L nf thaw live dQ tN s h (a6 env call L nf thaw live (dQ 1) m n k) :=
 aK vT kr
noncomputable def zQ:SC:=aQ Tryz.f45
noncomputable def qA:Nat → Code:=lpOf Tryz.f45
theorem QW:aI (aL Tryz.f45) = true:=kr
theorem FI:aA env L (n + 1) 45 args h = aC env (aA env L n) L h.length [] Bz45 qA zQ (args ++ List.replicate (Tryz.f45.ntmps - args.length) (.d .undef)) h (kFin env.P h.length false [.tmp 4]) :=
 aO (mode:=0) kr Tryz.func45 kr kr QW kr kr
noncomputable def BT:SC:=a7 Tryz.f45 0
theorem EK:aF env call L nf thaw live (qA 0) m (n + 1) s h k = aC env call L nf thaw live qA BT s h (a6 env call L nf thaw live (qA 0) m n k) :=
 aK QW kr
noncomputable def aBv:SC:=aQ Tryz.f46
noncomputable def oO:Nat → Code:=lpOf Tryz.f46
theorem XW:aI (aL Tryz.f46) = true:=kr
theorem aHw:aA env L (n + 1) 46 args h = aC env (aA env L n) L h.length (W4 (W2 (W1 [1002]))) Bz30 oO aBv (args ++ List.replicate (Tryz.f46.ntmps - args.length) (.d .undef)) h (kFin env.P h.length true [.tmp 2]) :=
 aO (mode:=2) kr Tryz.func46 kr kr XW kr kr
noncomputable def E4:SC:=a7 Tryz.f46 0
theorem GJ:aF env call L nf thaw live (oO 0) m (n + 1) s h k = aC env call L nf thaw live oO E4 s h (a6 env call L nf thaw live (oO 0) m n k) :=
 aK XW kr
noncomputable def aBA:SC:=aQ Tryz.f47
noncomputable def uD:Nat → Code:=lpOf Tryz.f47
theorem X6:aI (aL Tryz.f47) = true:=kr
theorem aGu:aA env L (n + 1) 47 args h = aC env (aA env L n) L h.length [] Bz18 uD aBA (args ++ List.replicate (Tryz.f47.ntmps - args.length) (.d .undef)) h (kFin env.P h.length true [.tmp 2]) :=
 aO (mode:=2) kr Tryz.func47 kr kr X6 kr kr
noncomputable def FL:SC:=a7 Tryz.f47 0
theorem GW:aF env call L nf thaw live (uD 0) m (n + 1) s h k = aC env call L nf thaw live uD FL s h (a6 env call L nf thaw live (uD 0) m n k) :=
 aK X6 kr
noncomputable def d5:SC:=aQ Tryz.f48
noncomputable def cN:Nat → Code:=lpOf Tryz.f48
theorem mV:aI (aL Tryz.f48) = true:=kr
theorem eI:aA env L (n + 1) 48 args h = aC env (aA env L n) L h.length [] Bz6 cN d5 (args ++ List.replicate (Tryz.f48.ntmps - args.length) (.d .undef)) h (kFin env.P h.length false [.tmp 2]) :=
 aO (mode:=1) kr Tryz.func48 kr kr mV kr kr
noncomputable def fJ:SC:=a7 Tryz.f48 0
theorem fZ:aF env call L nf thaw live (cN 0) m (n + 1) s h k = aC env call L nf thaw live cN fJ s h (a6 env call L nf thaw live (cN 0) m n k) :=
 aK mV kr
noncomputable def fC:SC:=a7 Tryz.f48 1
theorem f0:aF env call L nf thaw live (cN 1) m (n + 1) s h k = aC env call L nf thaw live cN fC s h (a6 env call L nf thaw live (cN 1) m n k) :=
 aK mV kr
noncomputable def KX:SC:=aQ Tryz.f49
noncomputable def cI:Nat → Code:=lpOf Tryz.f49
theorem pK:aI (aL Tryz.f49) = true:=kr
theorem ZO:aA env L (n + 1) 49 args h = aC env (aA env L n) L h.length (W8 (W4 [2002])) Bz4 cI KX (args ++ List.replicate (Tryz.f49.ntmps - args.length) (.d .undef)) h (kFin env.P h.length false [.tmp 4]) :=
 aO (mode:=2) kr Tryz.func49 kr kr pK kr kr
noncomputable def tB:SC:=a7 Tryz.f49 0
theorem xQ:aF env call L nf thaw live (cI 0) m (n + 1) s h k = aC env call L nf thaw live cI tB s h (a6 env call L nf thaw live (cI 0) m n k) :=
 aK pK kr
noncomputable def s9:SC:=a7 Tryz.f49 1
theorem xT:aF env call L nf thaw live (cI 1) m (n + 1) s h k = aC env call L nf thaw live cI s9 s h (a6 env call L nf thaw live (cI 1) m n k) :=
 aK pK kr
noncomputable def s6:SC:=a7 Tryz.f49 2
theorem w4:aF env call L nf thaw live (cI 2) m (n + 1) s h k = aC env call L nf thaw live cI s6 s h (a6 env call L nf thaw live (cI 2) m n k) :=
 aK pK kr
theorem uN {L n:Nat} {args:List A} {h:H}:aA env L (n + 1) 50 args h = vH 94 52 args h:=by
 have:env.prim 50 = some (vH 94 52):=kr
 simp only [aA,this]
noncomputable def fX:SC:=aQ Tryz.f51
noncomputable def lV:Nat → Code:=lpOf Tryz.f51
theorem lU:aI (aL Tryz.f51) = true:=kr
theorem l4:aA env L (n + 1) 51 args h = aC env (aA env L n) L h.length [] ([]) lV fX (args ++ List.replicate (Tryz.f51.ntmps - args.length) (.d .undef)) h (kFin env.P h.length true [.tmp 2]) :=
 aO (mode:=0) kr Tryz.func51 kr kr lU kr kr
noncomputable def NT:SC:=aQ Tryz.f52
noncomputable def aCq:Nat → Code:=lpOf Tryz.f52
theorem aCe:aI (aL Tryz.f52) = true:=kr
noncomputable def aBp:SC:=aQ Tryz.f53
noncomputable def s8:Nat → Code:=lpOf Tryz.f53
theorem XA:aI (aL Tryz.f53) = true:=kr
theorem aGL:aA env L (n + 1) 53 args h = aC env (aA env L n) L h.length [] Bz17 s8 aBp (args ++ List.replicate (Tryz.f53.ntmps - args.length) (.d .undef)) h (kFin env.P h.length false [.tmp 4]) :=
 aO (mode:=1) kr Tryz.func53 kr kr XA kr kr
noncomputable def E8:SC:=a7 Tryz.f53 0
theorem GL:aF env call L nf thaw live (s8 0) m (n + 1) s h k = aC env call L nf thaw live s8 E8 s h (a6 env call L nf thaw live (s8 0) m n k) :=
 aK XA kr
noncomputable def aAp:SC:=aQ Tryz.f54
noncomputable def tR:Nat → Code:=lpOf Tryz.f54
theorem VI:aI (aL Tryz.f54) = true:=kr
theorem aHo:aA env L (n + 1) 54 args h = aC env (aA env L n) L h.length [] Bz24 tR aAp (args ++ List.replicate (Tryz.f54.ntmps - args.length) (.d .undef)) h (kFin env.P h.length false [.tmp 4]) :=
 aO (mode:=1) kr Tryz.func54 kr kr VI kr kr
noncomputable def E1:SC:=a7 Tryz.f54 0
theorem G6:aF env call L nf thaw live (tR 0) m (n + 1) s h k = aC env call L nf thaw live tR E1 s h (a6 env call L nf thaw live (tR 0) m n k) :=
 aK VI kr
noncomputable def EI:SC:=aQ Tryz.f58
noncomputable def aGo:Nat → Code:=lpOf Tryz.f58
theorem aHu:aI (aL Tryz.f58) = true:=kr
theorem HP:aA env L (n + 1) 58 args h = aC env (aA env L n) L h.length [] ([]) aGo EI (args ++ List.replicate (Tryz.f58.ntmps - args.length) (.d .undef)) h (kFin env.P h.length false [.tmp 4]) :=
 aO (mode:=1) kr Tryz.func58 kr kr aHu kr kr
noncomputable def C7:SC:=aQ Tryz.f59
noncomputable def R9:Nat → Code:=lpOf Tryz.f59
theorem R6:aI (aL Tryz.f59) = true:=kr
theorem TV:aA env L (n + 1) 59 args h = aC env (aA env L n) L h.length [] ([]) R9 C7 (args ++ List.replicate (Tryz.f59.ntmps - args.length) (.d .undef)) h (kFin env.P h.length false [.tmp 4]) :=
 aO (mode:=1) kr Tryz.func59 kr kr R6 kr kr
noncomputable def nC:SC:=aQ Tryz.f60
noncomputable def SP:Nat → Code:=lpOf Tryz.f60
theorem RY:aI (aL Tryz.f60) = true:=kr
theorem rI:aA env L (n + 1) 60 args h = aC env (aA env L n) L h.length [] ([]) SP nC (args ++ List.replicate (Tryz.f60.ntmps - args.length) (.d .undef)) h (kFin env.P h.length false [.tmp 4]) :=
 aO (mode:=1) kr Tryz.func60 kr kr RY kr kr
noncomputable def GB:SC:=aQ Tryz.f64
noncomputable def XZ:Nat → Code:=lpOf Tryz.f64
theorem UO:aI (aL Tryz.f64) = true:=kr
theorem X0:aA env L (n + 1) 64 args h = aC env (aA env L n) L h.length [] ([]) XZ GB (args ++ List.replicate (Tryz.f64.ntmps - args.length) (.d .undef)) h (kFin env.P h.length false [.tmp 2]) :=
 aO (mode:=1) kr Tryz.func64 kr kr UO kr kr
noncomputable def aF1:SC:=aQ Tryz.f65
noncomputable def aKL:Nat → Code:=lpOf Tryz.f65
theorem aJ7:aI (aL Tryz.f65) = true:=kr
theorem aKR:aA env L (n + 1) 65 args h = aC env (aA env L n) L h.length [] ([]) aKL aF1 (args ++ List.replicate (Tryz.f65.ntmps - args.length) (.d .undef)) h (kFin env.P h.length false [.tmp 4]) :=
 aO (mode:=1) kr Tryz.func65 kr kr aJ7 kr kr
noncomputable def MJ:SC:=aQ Tryz.f66
noncomputable def aB7:Nat → Code:=lpOf Tryz.f66
theorem aCp:aI (aL Tryz.f66) = true:=kr
theorem aCg:aA env L (n + 1) 66 args h = aC env (aA env L n) L h.length [] ([]) aB7 MJ (args ++ List.replicate (Tryz.f66.ntmps - args.length) (.d .undef)) h (kFin env.P h.length false [.tmp 4]) :=
 aO (mode:=1) kr Tryz.func66 kr kr aCp kr kr
noncomputable def wE:SC:=aQ Tryz.f68
noncomputable def X8:Nat → Code:=lpOf Tryz.f68
theorem UV:aI (aL Tryz.f68) = true:=kr
theorem CX:aA env L (n + 1) 68 args h = aC env (aA env L n) L h.length [] ([]) X8 wE (args ++ List.replicate (Tryz.f68.ntmps - args.length) (.d .undef)) h (kFin env.P h.length false [.tmp 4,.tmp 5]) :=
 aO (mode:=1) kr Tryz.func68 kr kr UV kr kr
theorem p3 {L n:Nat} {args:List A} {h:H}:aA env L (n + 1) 69 args h = CF 52 args h:=by
 have:env.prim 69 = some (CF 52):=kr
 simp only [aA,this]
noncomputable def fN:SC:=aQ Tryz.f70
noncomputable def TR:Nat → Code:=lpOf Tryz.f70
theorem RT:aI (aL Tryz.f70) = true:=kr
theorem gC:aA env L (n + 1) 70 args h = aC env (aA env L n) L h.length [] ([]) TR fN (args ++ List.replicate (Tryz.f70.ntmps - args.length) (.d .undef)) h (kFin env.P h.length false [.tmp 6,.tmp 7]) :=
 aO (mode:=1) kr Tryz.func70 kr kr RT kr kr
noncomputable def iX:SC:=aQ Tryz.f71
noncomputable def rZ:Nat → Code:=lpOf Tryz.f71
theorem rL:aI (aL Tryz.f71) = true:=kr
theorem rS:aA env L (n + 1) 71 args h = aC env (aA env L n) L h.length [] ([]) rZ iX (args ++ List.replicate (Tryz.f71.ntmps - args.length) (.d .undef)) h (kFin env.P h.length false [.tmp 4]) :=
 aO (mode:=1) kr Tryz.func71 kr kr rL kr kr
noncomputable def o8:SC:=aQ Tryz.f76
noncomputable def jJ:Nat → Code:=lpOf Tryz.f76
theorem C9:aI (aL Tryz.f76) = true:=kr
theorem uH:aA env L (n + 1) 76 args h = aC env (aA env L n) L h.length [] Bz26 jJ o8 (args ++ List.replicate (Tryz.f76.ntmps - args.length) (.d .undef)) h (kFin env.P h.length false [.tmp 4]) :=
 aO (mode:=1) kr Tryz.func76 kr kr C9 kr kr
noncomputable def rR:SC:=a7 Tryz.f76 0
theorem uU:aF env call L nf thaw live (jJ 0) m (n + 1) s h k = aC env call L nf thaw live jJ rR s h (a6 env call L nf thaw live (jJ 0) m n k) :=
 aK C9 kr
noncomputable def D8:SC:=aQ Tryz.f77
noncomputable def TK:Nat → Code:=lpOf Tryz.f77
theorem S1:aI (aL Tryz.f77) = true:=kr
theorem T7:aA env L (n + 1) 77 args h = aC env (aA env L n) L h.length [] ([]) TK D8 (args ++ List.replicate (Tryz.f77.ntmps - args.length) (.d .undef)) h (kFin env.P h.length false [.tmp 10,.tmp 11]) :=
 aO (mode:=1) kr Tryz.func77 kr kr S1 kr kr
noncomputable def T3:SC:=aQ Tryz.f80
noncomputable def aJr:Nat → Code:=lpOf Tryz.f80
theorem aIe:aI (aL Tryz.f80) = true:=kr
theorem aBs:aA env L (n + 1) 80 args h = aC env (aA env L n) L h.length [] ([]) aJr T3 (args ++ List.replicate (Tryz.f80.ntmps - args.length) (.d .undef)) h (kFin env.P h.length false [.tmp 4]) :=
 aO (mode:=1) kr Tryz.func80 kr kr aIe kr kr
noncomputable def G5:SC:=aQ Tryz.f81
noncomputable def VN:Nat → Code:=lpOf Tryz.f81
theorem WJ:aI (aL Tryz.f81) = true:=kr
theorem U3:aA env L (n + 1) 81 args h = aC env (aA env L n) L h.length [] ([]) VN G5 (args ++ List.replicate (Tryz.f81.ntmps - args.length) (.d .undef)) h (kFin env.P h.length false [.tmp 2]) :=
 aO (mode:=1) kr Tryz.func81 kr kr WJ kr kr
noncomputable def DZ:SC:=aQ Tryz.f82
noncomputable def uC:Nat → Code:=lpOf Tryz.f82
theorem XC:aI (aL Tryz.f82) = true:=kr
theorem IQ:aA env L (n + 1) 82 args h = aC env (aA env L n) L h.length [] Bz28 uC DZ (args ++ List.replicate (Tryz.f82.ntmps - args.length) (.d .undef)) h (kFin env.P h.length false [.tmp 6]) :=
 aO (mode:=1) kr Tryz.func82 kr kr XC kr kr
noncomputable def qF:SC:=a7 Tryz.f82 0
theorem oY:aF env call L nf thaw live (uC 0) m (n + 1) s h k = aC env call L nf thaw live uC qF s h (a6 env call L nf thaw live (uC 0) m n k) :=
 aK XC kr
noncomputable def KM:SC:=aQ Tryz.f83
noncomputable def kX:Nat → Code:=lpOf Tryz.f83
theorem FN:aI (aL Tryz.f83) = true:=kr
theorem YV:aA env L (n + 1) 83 args h = aC env (aA env L n) L h.length [] Bz41 kX KM (args ++ List.replicate (Tryz.f83.ntmps - args.length) (.d .undef)) h (kFin env.P h.length false [.tmp 2]) :=
 aO (mode:=2) kr Tryz.func83 kr kr FN kr kr
noncomputable def nE:SC:=a7 Tryz.f83 0
theorem nS:aF env call L nf thaw live (kX 0) m (n + 1) s h k = aC env call L nf thaw live kX nE s h (a6 env call L nf thaw live (kX 0) m n k) :=
 aK FN kr
noncomputable def VY:SC:=aQ Tryz.f84
noncomputable def gM:Nat → Code:=lpOf Tryz.f84
theorem EY:aI (aL Tryz.f84) = true:=kr
theorem aFm:aA env L (n + 1) 84 args h = aC env (aA env L n) L h.length [] Bz15 gM VY (args ++ List.replicate (Tryz.f84.ntmps - args.length) (.d .undef)) h (kFin env.P h.length false Tryz.f84.results.toList) :=
 aO (mode:=2) kr Tryz.func84 kr kr EY kr kr
noncomputable def sX:SC:=a7 Tryz.f84 0
theorem uI:aF env call L nf thaw live (gM 0) m (n + 1) s h k = aC env call L nf thaw live gM sX s h (a6 env call L nf thaw live (gM 0) m n k) :=
 aK EY kr
noncomputable def AV:SC:=a7 Tryz.f84 1
theorem DW:aF env call L nf thaw live (gM 1) m (n + 1) s h k = aC env call L nf thaw live gM AV s h (a6 env call L nf thaw live (gM 1) m n k) :=
 aK EY kr
noncomputable def oW:SC:=aQ Tryz.f85
noncomputable def UM:Nat → Code:=lpOf Tryz.f85
theorem VS:aI (aL Tryz.f85) = true:=kr
theorem tH:aA env L (n + 1) 85 args h = aC env (aA env L n) L h.length [] ([]) UM oW (args ++ List.replicate (Tryz.f85.ntmps - args.length) (.d .undef)) h (kFin env.P h.length false [.tmp 4,.tmp 5]) :=
 aO (mode:=1) kr Tryz.func85 kr kr VS kr kr
noncomputable def jO:SC:=aQ Tryz.f86
noncomputable def SS:Nat → Code:=lpOf Tryz.f86
theorem S5:aI (aL Tryz.f86) = true:=kr
theorem lL:aA env L (n + 1) 86 args h = aC env (aA env L n) L h.length [] ([]) SS jO (args ++ List.replicate (Tryz.f86.ntmps - args.length) (.d .undef)) h (kFin env.P h.length false [.tmp 6,.tmp 7]) :=
 aO (mode:=1) kr Tryz.func86 kr kr S5 kr kr
noncomputable def NH:SC:=aQ Tryz.f87
noncomputable def tC:Nat → Code:=lpOf Tryz.f87
theorem WR:aI (aL Tryz.f87) = true:=kr
theorem WW:aA env L (n + 1) 87 args h = aC env (aA env L n) L h.length [] Bz27 tC NH (args ++ List.replicate (Tryz.f87.ntmps - args.length) (.d .undef)) h (kFin env.P h.length false [.tmp 4]) :=
 aO (mode:=1) kr Tryz.func87 kr kr WR kr kr
noncomputable def wH:SC:=a7 Tryz.f87 0
theorem wC:aF env call L nf thaw live (tC 0) m (n + 1) s h k = aC env call L nf thaw live tC wH s h (a6 env call L nf thaw live (tC 0) m n k) :=
 aK WR kr
noncomputable def YL:SC:=aQ Tryz.f88
noncomputable def aEP:Nat → Code:=lpOf Tryz.f88
theorem aFd:aI (aL Tryz.f88) = true:=kr
theorem aEJ:aA env L (n + 1) 88 args h = aC env (aA env L n) L h.length [] ([]) aEP YL (args ++ List.replicate (Tryz.f88.ntmps - args.length) (.d .undef)) h (kFin env.P h.length false [.tmp 2]) :=
 aO (mode:=1) kr Tryz.func88 kr kr aFd kr kr
noncomputable def M4:SC:=aQ Tryz.f89
noncomputable def mF:Nat → Code:=lpOf Tryz.f89
theorem J3:aI (aL Tryz.f89) = true:=kr
theorem aCo:aA env L (n + 1) 89 args h = aC env (aA env L n) L h.length [] Bz46 mF M4 (args ++ List.replicate (Tryz.f89.ntmps - args.length) (.d .undef)) h (kFin env.P h.length false [.tmp 4]) :=
 aO (mode:=1) kr Tryz.func89 kr kr J3 kr kr
noncomputable def kP:SC:=a7 Tryz.f89 0
theorem j8:aF env call L nf thaw live (mF 0) m (n + 1) s h k = aC env call L nf thaw live mF kP s h (a6 env call L nf thaw live (mF 0) m n k) :=
 aK J3 kr
noncomputable def aEd:SC:=aQ Tryz.f90
noncomputable def xY:Nat → Code:=lpOf Tryz.f90
theorem aB4:aI (aL Tryz.f90) = true:=kr
theorem aIH:aA env L (n + 1) 90 args h = aC env (aA env L n) L h.length [] Bz18 xY aEd (args ++ List.replicate (Tryz.f90.ntmps - args.length) (.d .undef)) h (kFin env.P h.length true [.tmp 2]) :=
 aO (mode:=2) kr Tryz.func90 kr kr aB4 kr kr
noncomputable def HN:SC:=a7 Tryz.f90 0
theorem JX:aF env call L nf thaw live (xY 0) m (n + 1) s h k = aC env call L nf thaw live xY HN s h (a6 env call L nf thaw live (xY 0) m n k) :=
 aK aB4 kr
noncomputable def KG:SC:=aQ Tryz.f91
noncomputable def iJ:Nat → Code:=lpOf Tryz.f91
theorem G8:aI (aL Tryz.f91) = true:=kr
theorem YU:aA env L (n + 1) 91 args h = aC env (aA env L n) L h.length [0,0,0,2] Bz20 iJ KG (args ++ List.replicate (Tryz.f91.ntmps - args.length) (.d .undef)) h (kFin env.P h.length false [.tmp 2]) :=
 aO (mode:=2) kr Tryz.func91 kr kr G8 kr kr
noncomputable def nD:SC:=a7 Tryz.f91 0
theorem nW:aF env call L nf thaw live (iJ 0) m (n + 1) s h k = aC env call L nf thaw live iJ nD s h (a6 env call L nf thaw live (iJ 0) m n k) :=
 aK G8 kr
noncomputable def GI:SC:=aQ Tryz.f92
noncomputable def XH:Nat → Code:=lpOf Tryz.f92
theorem VM:aI (aL Tryz.f92) = true:=kr
theorem XJ:aA env L (n + 1) 92 args h = aC env (aA env L n) L h.length [] ([]) XH GI (args ++ List.replicate (Tryz.f92.ntmps - args.length) (.d .undef)) h (kFin env.P h.length false [.tmp 2]) :=
 aO (mode:=1) kr Tryz.func92 kr kr VM kr kr
noncomputable def B4:SC:=aQ Tryz.f95
noncomputable def mJ:Nat → Code:=lpOf Tryz.f95
theorem KQ:aI (aL Tryz.f95) = true:=kr
noncomputable def pH:SC:=a7 Tryz.f95 0
noncomputable def kA:SC:=aQ Tryz.f96
noncomputable def NC:Nat → Code:=lpOf Tryz.f96
theorem L9:aI (aL Tryz.f96) = true:=kr
noncomputable def iA:SC:=aQ Tryz.f97
noncomputable def FT:Nat → Code:=lpOf Tryz.f97
theorem GO:aI (aL Tryz.f97) = true:=kr
noncomputable def aEG:SC:=aQ Tryz.f98
noncomputable def wZ:Nat → Code:=lpOf Tryz.f98
theorem aAW:aI (aL Tryz.f98) = true:=kr
theorem aIb:aA env L (n + 1) 98 args h = aC env (aA env L n) L h.length [] Bz24 wZ aEG (args ++ List.replicate (Tryz.f98.ntmps - args.length) (.d .undef)) h (kFin env.P h.length false [.tmp 4]) :=
 aO (mode:=1) kr Tryz.func98 kr kr aAW kr kr
noncomputable def ID:SC:=a7 Tryz.f98 0
theorem J8:aF env call L nf thaw live (wZ 0) m (n + 1) s h k = aC env call L nf thaw live wZ ID s h (a6 env call L nf thaw live (wZ 0) m n k) :=
 aK aAW kr
noncomputable def F3:SC:=aQ Tryz.f100
noncomputable def WS:Nat → Code:=lpOf Tryz.f100
theorem X9:aI (aL Tryz.f100) = true:=kr
theorem XV:aA env L (n + 1) 100 args h = aC env (aA env L n) L h.length [] ([]) WS F3 (args ++ List.replicate (Tryz.f100.ntmps - args.length) (.d .undef)) h (kFin env.P h.length false [.tmp 4]) :=
 aO (mode:=1) kr Tryz.func100 kr kr X9 kr kr
noncomputable def KZ:SC:=aQ Tryz.f105
noncomputable def ZQ:Nat → Code:=lpOf Tryz.f105
theorem Z7:aI (aL Tryz.f105) = true:=kr
theorem ZT:aA env L (n + 1) 105 args h = aC env (aA env L n) L h.length [] ([]) ZQ KZ (args ++ List.replicate (Tryz.f105.ntmps - args.length) (.d .undef)) h (kFin env.P h.length false [.tmp 4,.tmp 5]) :=
 aO (mode:=1) kr Tryz.func105 kr kr Z7 kr kr
noncomputable def pZ:SC:=aQ Tryz.f106
noncomputable def LZ:Nat → Code:=lpOf Tryz.f106
theorem MI:aI (aL Tryz.f106) = true:=kr
theorem x2:aA env L (n + 1) 106 args h = aC env (aA env L n) L h.length [] ([]) LZ pZ (args ++ List.replicate (Tryz.f106.ntmps - args.length) (.d .undef)) h (kFin env.P h.length false [.tmp 3]) :=
 aO (mode:=0) kr Tryz.func106 kr kr MI kr kr
noncomputable def x7:SC:=aQ Tryz.f109
noncomputable def K9:Nat → Code:=lpOf Tryz.f109
theorem LK:aI (aL Tryz.f109) = true:=kr
theorem LC:aA env L (n + 1) 109 args h = aC env (aA env L n) L h.length [] ([]) K9 x7 (args ++ List.replicate (Tryz.f109.ntmps - args.length) (.d .undef)) h (kFin env.P h.length false [.tmp 4]) :=
 aO (mode:=0) kr Tryz.func109 kr kr LK kr kr
noncomputable def gD:SC:=aQ Tryz.f110
noncomputable def c7:Nat → Code:=lpOf Tryz.f110
theorem j7:aI (aL Tryz.f110) = true:=kr
theorem j5:aA env L (n + 1) 110 args h = aC env (aA env L n) L h.length [] Bz42 c7 gD (args ++ List.replicate (Tryz.f110.ntmps - args.length) (.d .undef)) h (kFin env.P h.length false [.tmp 4]) :=
 aO (mode:=1) kr Tryz.func110 kr kr j7 kr kr
noncomputable def dV:SC:=a7 Tryz.f110 0
theorem eO:aF env call L nf thaw live (c7 0) m (n + 1) s h k = aC env call L nf thaw live c7 dV s h (a6 env call L nf thaw live (c7 0) m n k) :=
 aK j7 kr
noncomputable def QD:SC:=aQ Tryz.f117
noncomputable def dC:Nat → Code:=lpOf Tryz.f117
theorem tA:aI (aL Tryz.f117) = true:=kr
theorem aCA:aA env L (n + 1) 117 args h = aC env (aA env L n) L h.length [] Bz3 dC QD (args ++ List.replicate (Tryz.f117.ntmps - args.length) (.d .undef)) h (kFin env.P h.length false [.tmp 2]) :=
 aO (mode:=2) kr Tryz.func117 kr kr tA kr kr
noncomputable def yC:SC:=a7 Tryz.f117 0
theorem AF:aF env call L nf thaw live (dC 0) m (n + 1) s h k = aC env call L nf thaw live dC yC s h (a6 env call L nf thaw live (dC 0) m n k) :=
 aK tA kr
noncomputable def yP:SC:=a7 Tryz.f117 1
theorem CG:aF env call L nf thaw live (dC 1) m (n + 1) s h k = aC env call L nf thaw live dC yP s h (a6 env call L nf thaw live (dC 1) m n k) :=
 aK tA kr
noncomputable def yF:SC:=a7 Tryz.f117 2
theorem BW:aF env call L nf thaw live (dC 2) m (n + 1) s h k = aC env call L nf thaw live dC yF s h (a6 env call L nf thaw live (dC 2) m n k) :=
 aK tA kr
noncomputable def xB:SC:=aQ Tryz.f118
noncomputable def LH:Nat → Code:=lpOf Tryz.f118
theorem LE:aI (aL Tryz.f118) = true:=kr
theorem LD:aA env L (n + 1) 118 args h = aC env (aA env L n) L h.length [] ([]) LH xB (args ++ List.replicate (Tryz.f118.ntmps - args.length) (.d .undef)) h (kFin env.P h.length false [.tmp 9]) :=
 aO (mode:=0) kr Tryz.func118 kr kr LE kr kr
noncomputable def rD:SC:=aQ Tryz.f119
noncomputable def cJ:Nat → Code:=lpOf Tryz.f119
theorem pF:aI (aL Tryz.f119) = true:=kr
theorem vB:aA env L (n + 1) 119 args h = aC env (aA env L n) L h.length (W16 (W2 [2])) Bz2 cJ rD (args ++ List.replicate (Tryz.f119.ntmps - args.length) (.d .undef)) h (kFin env.P h.length false [.tmp 10,.tmp 11]) :=
 aO (mode:=1) kr Tryz.func119 kr kr pF kr kr
noncomputable def jM:SC:=a7 Tryz.f119 0
theorem jE:aF env call L nf thaw live (cJ 0) m (n + 1) s h k = aC env call L nf thaw live cJ jM s h (a6 env call L nf thaw live (cJ 0) m n k) :=
 aK pF kr
noncomputable def m8:SC:=a7 Tryz.f119 1
theorem oM:aF env call L nf thaw live (cJ 1) m (n + 1) s h k = aC env call L nf thaw live cJ m8 s h (a6 env call L nf thaw live (cJ 1) m n k) :=
 aK pF kr
noncomputable def sV:SC:=a7 Tryz.f119 2
theorem x6:aF env call L nf thaw live (cJ 2) m (n + 1) s h k = aC env call L nf thaw live cJ sV s h (a6 env call L nf thaw live (cJ 2) m n k) :=
 aK pF kr
noncomputable def xZ:SC:=aQ Tryz.f120
noncomputable def LG:Nat → Code:=lpOf Tryz.f120
theorem K6:aI (aL Tryz.f120) = true:=kr
theorem LP:aA env L (n + 1) 120 args h = aC env (aA env L n) L h.length [] ([]) LG xZ (args ++ List.replicate (Tryz.f120.ntmps - args.length) (.d .undef)) h (kFin env.P h.length false [.tmp 6]) :=
 aO (mode:=0) kr Tryz.func120 kr kr K6 kr kr
noncomputable def aAM:SC:=aQ Tryz.f123
noncomputable def aGx:Nat → Code:=lpOf Tryz.f123
theorem aHt:aI (aL Tryz.f123) = true:=kr
theorem aGz:aA env L (n + 1) 123 args h = aC env (aA env L n) L h.length [] ([]) aGx aAM (args ++ List.replicate (Tryz.f123.ntmps - args.length) (.d .undef)) h (kFin env.P h.length false [.tmp 4]) :=
 aO (mode:=1) kr Tryz.func123 kr kr aHt kr kr
noncomputable def QZ:SC:=aQ Tryz.f124
noncomputable def eL:Nat → Code:=lpOf Tryz.f124
theorem BN:aI (aL Tryz.f124) = true:=kr
theorem aEp:aA env L (n + 1) 124 args h = aC env (aA env L n) L h.length [] Bz25 eL QZ (args ++ List.replicate (Tryz.f124.ntmps - args.length) (.d .undef)) h (kFin env.P h.length false [.tmp 2]) :=
 aO (mode:=2) kr Tryz.func124 kr kr BN kr kr
noncomputable def yN:SC:=a7 Tryz.f124 0
theorem AZ:aF env call L nf thaw live (eL 0) m (n + 1) s h k = aC env call L nf thaw live eL yN s h (a6 env call L nf thaw live (eL 0) m n k) :=
 aK BN kr
noncomputable def qW:SC:=a7 Tryz.f124 1
theorem rP:aF env call L nf thaw live (eL 1) m (n + 1) s h k = aC env call L nf thaw live eL qW s h (a6 env call L nf thaw live (eL 1) m n k) :=
 aK BN kr
noncomputable def RM:SC:=aQ Tryz.f125
noncomputable def oN:Nat → Code:=lpOf Tryz.f125
theorem NQ:aI (aL Tryz.f125) = true:=kr
theorem aCO:aA env L (n + 1) 125 args h = aC env (aA env L n) L h.length [] Bz56 oN RM (args ++ List.replicate (Tryz.f125.ntmps - args.length) (.d .undef)) h (kFin env.P h.length false [.tmp 4]) :=
 aO (mode:=1) kr Tryz.func125 kr kr NQ kr kr
noncomputable def yR:SC:=a7 Tryz.f125 0
theorem A8:aF env call L nf thaw live (oN 0) m (n + 1) s h k = aC env call L nf thaw live oN yR s h (a6 env call L nf thaw live (oN 0) m n k) :=
 aK NQ kr
noncomputable def wK:SC:=aQ Tryz.f126
noncomputable def aDk:Nat → Code:=lpOf Tryz.f126
theorem aDq:aI (aL Tryz.f126) = true:=kr
theorem BZ:aA env L (n + 1) 126 args h = aC env (aA env L n) L h.length [] ([]) aDk wK (args ++ List.replicate (Tryz.f126.ntmps - args.length) (.d .undef)) h (kFin env.P h.length false [.tmp 4]) :=
 aO (mode:=1) kr Tryz.func126 kr kr aDq kr kr
noncomputable def wG:SC:=aQ Tryz.f127
noncomputable def bL:Nat → Code:=lpOf Tryz.f127
theorem nQ:aI (aL Tryz.f127) = true:=kr
theorem A5:aA env L (n + 1) 127 args h = aC env (aA env L n) L h.length [] Bz0 bL wG (args ++ List.replicate (Tryz.f127.ntmps - args.length) (.d .undef)) h (kFin env.P h.length false [.tmp 2,.tmp 3]) :=
 aO (mode:=1) kr Tryz.func127 kr kr nQ kr kr
noncomputable def yH:SC:=a7 Tryz.f127 0
theorem AL:aF env call L nf thaw live (bL 0) m (n + 1) s h k = aC env call L nf thaw live bL yH s h (a6 env call L nf thaw live (bL 0) m n k) :=
 aK nQ kr
noncomputable def rB:SC:=a7 Tryz.f127 1
theorem rM:aF env call L nf thaw live (bL 1) m (n + 1) s h k = aC env call L nf thaw live bL rB s h (a6 env call L nf thaw live (bL 1) m n k) :=
 aK nQ kr
noncomputable def mC:SC:=a7 Tryz.f127 2
theorem l9:aF env call L nf thaw live (bL 2) m (n + 1) s h k = aC env call L nf thaw live bL mC s h (a6 env call L nf thaw live (bL 2) m n k) :=
 aK nQ kr
noncomputable def mK:SC:=a7 Tryz.f127 3
theorem lP:aF env call L nf thaw live (bL 3) m (n + 1) s h k = aC env call L nf thaw live bL mK s h (a6 env call L nf thaw live (bL 3) m n k) :=
 aK nQ kr
noncomputable def oP:SC:=aQ Tryz.f128
noncomputable def WT:Nat → Code:=lpOf Tryz.f128
theorem V3:aI (aL Tryz.f128) = true:=kr
theorem tU:aA env L (n + 1) 128 args h = aC env (aA env L n) L h.length [] ([]) WT oP (args ++ List.replicate (Tryz.f128.ntmps - args.length) (.d .undef)) h (kFin env.P h.length false [.tmp 4]) :=
 aO (mode:=1) kr Tryz.func128 kr kr V3 kr kr
noncomputable def ET:SC:=aQ Tryz.f130
noncomputable def SU:Nat → Code:=lpOf Tryz.f130
theorem SX:aI (aL Tryz.f130) = true:=kr
noncomputable def wS:SC:=aQ Tryz.f131
noncomputable def LJ:Nat → Code:=lpOf Tryz.f131
theorem LI:aI (aL Tryz.f131) = true:=kr
noncomputable def GH:SC:=aQ Tryz.f132
noncomputable def X2:Nat → Code:=lpOf Tryz.f132
theorem WX:aI (aL Tryz.f132) = true:=kr
theorem VQ:aA env L (n + 1) 132 args h = aC env (aA env L n) L h.length [] ([]) X2 GH (args ++ List.replicate (Tryz.f132.ntmps - args.length) (.d .undef)) h (kFin env.P h.length false [.tmp 4]) :=
 aO (mode:=1) kr Tryz.func132 kr kr WX kr kr
noncomputable def aBf:SC:=aQ Tryz.f133
noncomputable def uK:Nat → Code:=lpOf Tryz.f133
theorem UR:aI (aL Tryz.f133) = true:=kr
theorem aHl:aA env L (n + 1) 133 args h = aC env (aA env L n) L h.length [] Bz36 uK aBf (args ++ List.replicate (Tryz.f133.ntmps - args.length) (.d .undef)) h (kFin env.P h.length false [.tmp 6]) :=
 aO (mode:=1) kr Tryz.func133 kr kr UR kr kr
noncomputable def E7:SC:=a7 Tryz.f133 0
theorem GK:aF env call L nf thaw live (uK 0) m (n + 1) s h k = aC env call L nf thaw live uK E7 s h (a6 env call L nf thaw live (uK 0) m n k) :=
 aK UR kr
noncomputable def BC:SC:=aQ Tryz.f134
noncomputable def PX:Nat → Code:=lpOf Tryz.f134
theorem P0:aI (aL Tryz.f134) = true:=kr
theorem PM:aA env L (n + 1) 134 args h = aC env (aA env L n) L h.length [] ([]) PX BC (args ++ List.replicate (Tryz.f134.ntmps - args.length) (.d .undef)) h (kFin env.P h.length false [.tmp 7]) :=
 aO (mode:=0) kr Tryz.func134 kr kr P0 kr kr
noncomputable def lI:SC:=aQ Tryz.f151
noncomputable def fR:Nat → Code:=lpOf Tryz.f151
theorem yZ:aI (aL Tryz.f151) = true:=kr
theorem pX:aA env L (n + 1) 151 args h = aC env (aA env L n) L h.length (W8 (W2 [2])) Bz7 fR lI (args ++ List.replicate (Tryz.f151.ntmps - args.length) (.d .undef)) h (kFin env.P h.length false [.tmp 9]) :=
 aO (mode:=0) kr Tryz.func151 kr kr yZ kr kr
noncomputable def bV:SC:=a7 Tryz.f151 0
theorem bQ:aF env call L nf thaw live (fR 0) m (n + 1) s h k = aC env call L nf thaw live fR bV s h (a6 env call L nf thaw live (fR 0) m n k) :=
 aK yZ kr
noncomputable def OC:SC:=aQ Tryz.f152
noncomputable def mA:Nat → Code:=lpOf Tryz.f152
theorem J9:aI (aL Tryz.f152) = true:=kr
theorem aCb:aA env L (n + 1) 152 args h = aC env (aA env L n) L h.length [0,0,0,2] Bz32 mA OC (args ++ List.replicate (Tryz.f152.ntmps - args.length) (.d .undef)) h (kFin env.P h.length false [.tmp 2]) :=
 aO (mode:=1) kr Tryz.func152 kr kr J9 kr kr
noncomputable def vI:SC:=a7 Tryz.f152 0
theorem yY:aF env call L nf thaw live (mA 0) m (n + 1) s h k = aC env call L nf thaw live mA vI s h (a6 env call L nf thaw live (mA 0) m n k) :=
 aK J9 kr
noncomputable def RX:SC:=aQ Tryz.f153
noncomputable def xA:Nat → Code:=lpOf Tryz.f153
theorem aAJ:aI (aL Tryz.f153) = true:=kr
theorem aBy:aA env L (n + 1) 153 args h = aC env (aA env L n) L h.length [] Bz27 xA RX (args ++ List.replicate (Tryz.f153.ntmps - args.length) (.d .undef)) h (kFin env.P h.length false [.tmp 4]) :=
 aO (mode:=1) kr Tryz.func153 kr kr aAJ kr kr
noncomputable def zK:SC:=a7 Tryz.f153 0
theorem yK:aF env call L nf thaw live (xA 0) m (n + 1) s h k = aC env call L nf thaw live xA zK s h (a6 env call L nf thaw live (xA 0) m n k) :=
 aK aAJ kr
noncomputable def QC:SC:=aQ Tryz.f154
noncomputable def fE:Nat → Code:=lpOf Tryz.f154
theorem AO:aI (aL Tryz.f154) = true:=kr
theorem aCM:aA env L (n + 1) 154 args h = aC env (aA env L n) L h.length [] Bz31 fE QC (args ++ List.replicate (Tryz.f154.ntmps - args.length) (.d .undef)) h (kFin env.P h.length false [.tmp 2]) :=
 aO (mode:=2) kr Tryz.func154 kr kr AO kr kr
noncomputable def yS:SC:=a7 Tryz.f154 0
theorem B9:aF env call L nf thaw live (fE 0) m (n + 1) s h k = aC env call L nf thaw live fE yS s h (a6 env call L nf thaw live (fE 0) m n k) :=
 aK AO kr
noncomputable def yO:SC:=a7 Tryz.f154 1
theorem B8:aF env call L nf thaw live (fE 1) m (n + 1) s h k = aC env call L nf thaw live fE yO s h (a6 env call L nf thaw live (fE 1) m n k) :=
 aK AO kr
noncomputable def QO:SC:=aQ Tryz.f155
noncomputable def fF:Nat → Code:=lpOf Tryz.f155
theorem BQ:aI (aL Tryz.f155) = true:=kr
theorem aEt:aA env L (n + 1) 155 args h = aC env (aA env L n) L h.length [] Bz12 fF QO (args ++ List.replicate (Tryz.f155.ntmps - args.length) (.d .undef)) h (kFin env.P h.length false [.tmp 6]) :=
 aO (mode:=2) kr Tryz.func155 kr kr BQ kr kr
noncomputable def yL:SC:=a7 Tryz.f155 0
theorem BM:aF env call L nf thaw live (fF 0) m (n + 1) s h k = aC env call L nf thaw live fF yL s h (a6 env call L nf thaw live (fF 0) m n k) :=
 aK BQ kr
noncomputable def yV:SC:=a7 Tryz.f155 1
theorem BA:aF env call L nf thaw live (fF 1) m (n + 1) s h k = aC env call L nf thaw live fF yV s h (a6 env call L nf thaw live (fF 1) m n k) :=
 aK BQ kr
noncomputable def jT:SC:=aQ Tryz.f156
noncomputable def aC6:Nat → Code:=lpOf Tryz.f156
theorem aCQ:aI (aL Tryz.f156) = true:=kr
theorem kT:aA env L (n + 1) 156 args h = aC env (aA env L n) L h.length [] (Z2 (U1 (Z2 (Z1 (U2 (Z32 (Z16 (Z8 ([]))))))))) aC6 jT (args ++ List.replicate (Tryz.f156.ntmps - args.length) (.d .undef)) h (kFin env.P h.length false [.tmp 6]) :=
 aO (mode:=1) kr Tryz.func156 kr kr aCQ kr kr
noncomputable def MY:SC:=aQ Tryz.f157
noncomputable def mG:Nat → Code:=lpOf Tryz.f157
theorem KF:aI (aL Tryz.f157) = true:=kr
theorem aCm:aA env L (n + 1) 157 args h = aC env (aA env L n) L h.length [] Bz39 mG MY (args ++ List.replicate (Tryz.f157.ntmps - args.length) (.d .undef)) h (kFin env.P h.length false [.tmp 4]) :=
 aO (mode:=2) kr Tryz.func157 kr kr KF kr kr
noncomputable def vC:SC:=a7 Tryz.f157 0
theorem y7:aF env call L nf thaw live (mG 0) m (n + 1) s h k = aC env call L nf thaw live mG vC s h (a6 env call L nf thaw live (mG 0) m n k) :=
 aK KF kr
noncomputable def UC:SC:=aQ Tryz.f158
noncomputable def e7:Nat → Code:=lpOf Tryz.f158
theorem FE:aI (aL Tryz.f158) = true:=kr
theorem aFn:aA env L (n + 1) 158 args h = aC env (aA env L n) L h.length [] Bz14 e7 UC (args ++ List.replicate (Tryz.f158.ntmps - args.length) (.d .undef)) h (kFin env.P h.length false []) :=
 aO (mode:=0) kr Tryz.func158 kr kr FE kr kr
noncomputable def uB:SC:=a7 Tryz.f158 0
theorem tJ:aF env call L nf thaw live (e7 0) m (n + 1) s h k = aC env call L nf thaw live e7 uB s h (a6 env call L nf thaw live (e7 0) m n k) :=
 aK FE kr
noncomputable def n4:SC:=a7 Tryz.f158 1
theorem nL:aF env call L nf thaw live (e7 1) m (n + 1) s h k = aC env call L nf thaw live e7 n4 s h (a6 env call L nf thaw live (e7 1) m n k) :=
 aK FE kr
noncomputable def NW:SC:=aQ Tryz.f159
noncomputable def mD:Nat → Code:=lpOf Tryz.f159
theorem KO:aI (aL Tryz.f159) = true:=kr
theorem aCn:aA env L (n + 1) 159 args h = aC env (aA env L n) L h.length [] Bz47 mD NW (args ++ List.replicate (Tryz.f159.ntmps - args.length) (.d .undef)) h (kFin env.P h.length false [.tmp 4]) :=
 aO (mode:=1) kr Tryz.func159 kr kr KO kr kr
noncomputable def vD:SC:=a7 Tryz.f159 0
theorem y5:aF env call L nf thaw live (mD 0) m (n + 1) s h k = aC env call L nf thaw live mD vD s h (a6 env call L nf thaw live (mD 0) m n k) :=
 aK KO kr
noncomputable def M8:SC:=aQ Tryz.f160
noncomputable def eP:Nat → Code:=lpOf Tryz.f160
theorem yG:aI (aL Tryz.f160) = true:=kr
theorem aB9:aA env L (n + 1) 160 args h = aC env (aA env L n) L h.length [] Bz16 eP M8 (args ++ List.replicate (Tryz.f160.ntmps - args.length) (.d .undef)) h (kFin env.P h.length false [.tmp 10]) :=
 aO (mode:=2) kr Tryz.func160 kr kr yG kr kr
noncomputable def vK:SC:=a7 Tryz.f160 0
theorem y2:aF env call L nf thaw live (eP 0) m (n + 1) s h k = aC env call L nf thaw live eP vK s h (a6 env call L nf thaw live (eP 0) m n k) :=
 aK yG kr
noncomputable def kW:SC:=a7 Tryz.f160 1
theorem kB:aF env call L nf thaw live (eP 1) m (n + 1) s h k = aC env call L nf thaw live eP kW s h (a6 env call L nf thaw live (eP 1) m n k) :=
 aK yG kr
noncomputable def qV:SC:=aQ Tryz.f161
noncomputable def kF:Nat → Code:=lpOf Tryz.f161
theorem F0:aI (aL Tryz.f161) = true:=kr
theorem vJ:aA env L (n + 1) 161 args h = aC env (aA env L n) L h.length [] Bz48 kF qV (args ++ List.replicate (Tryz.f161.ntmps - args.length) (.d .undef)) h (kFin env.P h.length false [.tmp 2]) :=
 aO (mode:=1) kr Tryz.func161 kr kr F0 kr kr
noncomputable def jP:SC:=a7 Tryz.f161 0
theorem jK:aF env call L nf thaw live (kF 0) m (n + 1) s h k = aC env call L nf thaw live kF jP s h (a6 env call L nf thaw live (kF 0) m n k) :=
 aK F0 kr
noncomputable def HJ:SC:=aQ Tryz.f162
noncomputable def jS:Nat → Code:=lpOf Tryz.f162
theorem CS:aI (aL Tryz.f162) = true:=kr
theorem X4:aA env L (n + 1) 162 args h = aC env (aA env L n) L h.length [] (U1 (Z1 (U4 (Z16 ([]))))) jS HJ (args ++ List.replicate (Tryz.f162.ntmps - args.length) (.d .undef)) h (kFin env.P h.length false [.tmp 2,.tmp 3]) :=
 aO (mode:=1) kr Tryz.func162 kr kr CS kr kr
noncomputable def rK:SC:=a7 Tryz.f162 0
theorem uY:aF env call L nf thaw live (jS 0) m (n + 1) s h k = aC env call L nf thaw live jS rK s h (a6 env call L nf thaw live (jS 0) m n k) :=
 aK CS kr
noncomputable def SF:SC:=aQ Tryz.f163
noncomputable def aHZ:Nat → Code:=lpOf Tryz.f163
theorem aJj:aI (aL Tryz.f163) = true:=kr
theorem aAU:aA env L (n + 1) 163 args h = aC env (aA env L n) L h.length [] ([]) aHZ SF (args ++ List.replicate (Tryz.f163.ntmps - args.length) (.d .undef)) h (kFin env.P h.length false [.tmp 6]) :=
 aO (mode:=1) kr Tryz.func163 kr kr aJj kr kr
noncomputable def aDz:SC:=aQ Tryz.f164
noncomputable def aHW:Nat → Code:=lpOf Tryz.f164
theorem aIu:aI (aL Tryz.f164) = true:=kr
theorem aJn:aA env L (n + 1) 164 args h = aC env (aA env L n) L h.length [] ([]) aHW aDz (args ++ List.replicate (Tryz.f164.ntmps - args.length) (.d .undef)) h (kFin env.P h.length false [.tmp 4]) :=
 aO (mode:=1) kr Tryz.func164 kr kr aIu kr kr
noncomputable def mE:SC:=aQ Tryz.f174
noncomputable def cO:Nat → Code:=lpOf Tryz.f174
theorem k6:aI (aL Tryz.f174) = true:=kr
theorem w7:aA env L (n + 1) 174 args h = aC env (aA env L n) L h.length [] Bz33 cO mE (args ++ List.replicate (Tryz.f174.ntmps - args.length) (.d .undef)) h (kFin env.P h.length false []) :=
 aO (mode:=0) kr Tryz.func174 kr kr k6 kr kr
noncomputable def d9:SC:=a7 Tryz.f174 0
theorem e6:aF env call L nf thaw live (cO 0) m (n + 1) s h k = aC env call L nf thaw live cO d9 s h (a6 env call L nf thaw live (cO 0) m n k) :=
 aK k6 kr
noncomputable def Q0:SC:=aQ Tryz.f175
noncomputable def dE:Nat → Code:=lpOf Tryz.f175
theorem tE:aI (aL Tryz.f175) = true:=kr
theorem aCZ:aA env L (n + 1) 175 args h = aC env (aA env L n) L h.length [] Bz5 dE Q0 (args ++ List.replicate (Tryz.f175.ntmps - args.length) (.d .undef)) h (kFin env.P h.length false [.tmp 8]) :=
 aO (mode:=2) kr Tryz.func175 kr kr tE kr kr
noncomputable def yE:SC:=a7 Tryz.f175 0
theorem B7:aF env call L nf thaw live (dE 0) m (n + 1) s h k = aC env call L nf thaw live dE yE s h (a6 env call L nf thaw live (dE 0) m n k) :=
 aK tE kr
noncomputable def yT:SC:=a7 Tryz.f175 1
theorem B3:aF env call L nf thaw live (dE 1) m (n + 1) s h k = aC env call L nf thaw live dE yT s h (a6 env call L nf thaw live (dE 1) m n k) :=
 aK tE kr
noncomputable def yD:SC:=a7 Tryz.f175 2
theorem BO:aF env call L nf thaw live (dE 2) m (n + 1) s h k = aC env call L nf thaw live dE yD s h (a6 env call L nf thaw live (dE 2) m n k) :=
 aK tE kr
noncomputable def aCT:SC:=aQ Tryz.f176
noncomputable def aJM:Nat → Code:=lpOf Tryz.f176
theorem aIP:aI (aL Tryz.f176) = true:=kr
theorem aIB:aA env L (n + 1) 176 args h = aC env (aA env L n) L h.length [] ([]) aJM aCT (args ++ List.replicate (Tryz.f176.ntmps - args.length) (.d .undef)) h (kFin env.P h.length false [.tmp 6]) :=
 aO (mode:=1) kr Tryz.func176 kr kr aIP kr kr
noncomputable def JA:SC:=aQ Tryz.f177
noncomputable def gI:Nat → Code:=lpOf Tryz.f177
theorem FJ:aI (aL Tryz.f177) = true:=kr
theorem Q2:aA env L (n + 1) 177 args h = aC env (aA env L n) L h.length [] Bz13 gI JA (args ++ List.replicate (Tryz.f177.ntmps - args.length) (.d .undef)) h (kFin env.P h.length false [.tmp 6]) :=
 aO (mode:=1) kr Tryz.func177 kr kr FJ kr kr
noncomputable def t7:SC:=a7 Tryz.f177 0
theorem uE:aF env call L nf thaw live (gI 0) m (n + 1) s h k = aC env call L nf thaw live gI t7 s h (a6 env call L nf thaw live (gI 0) m n k) :=
 aK FJ kr
noncomputable def s7:SC:=a7 Tryz.f177 1
theorem sW:aF env call L nf thaw live (gI 1) m (n + 1) s h k = aC env call L nf thaw live gI s7 s h (a6 env call L nf thaw live (gI 1) m n k) :=
 aK FJ kr
noncomputable def aA1:SC:=aQ Tryz.f178
noncomputable def aGl:Nat → Code:=lpOf Tryz.f178
theorem aGF:aI (aL Tryz.f178) = true:=kr
theorem aHD:aA env L (n + 1) 178 args h = aC env (aA env L n) L h.length [] ([]) aGl aA1 (args ++ List.replicate (Tryz.f178.ntmps - args.length) (.d .undef)) h (kFin env.P h.length false [.tmp 2]) :=
 aO (mode:=1) kr Tryz.func178 kr kr aGF kr kr
noncomputable def QH:SC:=aQ Tryz.f179
noncomputable def oG:Nat → Code:=lpOf Tryz.f179
theorem N0:aI (aL Tryz.f179) = true:=kr
theorem aDg:aA env L (n + 1) 179 args h = aC env (aA env L n) L h.length [] Bz43 oG QH (args ++ List.replicate (Tryz.f179.ntmps - args.length) (.d .undef)) h (kFin env.P h.length false [.tmp 4]) :=
 aO (mode:=1) kr Tryz.func179 kr kr N0 kr kr
noncomputable def rC:SC:=a7 Tryz.f179 0
theorem rQ:aF env call L nf thaw live (oG 0) m (n + 1) s h k = aC env call L nf thaw live oG rC s h (a6 env call L nf thaw live (oG 0) m n k) :=
 aK N0 kr
noncomputable def KS:SC:=aQ Tryz.f182
noncomputable def ZD:Nat → Code:=lpOf Tryz.f182
theorem ZE:aI (aL Tryz.f182) = true:=kr
theorem ZV:aA env L (n + 1) 182 args h = aC env (aA env L n) L h.length [] (Z2 (U2 (Z4 (U4 (Z32 (Z32 (Z2 (Z1 ([]))))))))) ZD KS (args ++ List.replicate (Tryz.f182.ntmps - args.length) (.d .undef)) h (kFin env.P h.length false [.tmp 8]) :=
 aO (mode:=2) kr Tryz.func182 kr kr ZE kr kr
end
end Ev
end Go.Proofs.YtejmccgfigiadaaGreat
