/-
  Each function's code as an equation. Written by a program.
-/
import Derived.Test.YthlkcebdfbjdoaaGreatEnv
set_option maxRecDepth 100000
namespace Go.Proofs.YthlkcebdfbjdoaaGreat
namespace Ev
section
variable{R:Type}{call:aX}{L nf n:Nat}{thaw:List Nat}{live m:List Bool}{s args:List A}{h:H}{k:KE R}
noncomputable def s7:SC:=aY Tryz.f3
noncomputable def lP:Nat->Code:=lpOf Tryz.f3
theorem HV:aP (aS Tryz.f3)=true:=kr
theorem xU:aA env L (n+1) 3 args h=aK env (aA env L n) L h.length [] Bz28 lP s7 (args++List.replicate (Tryz.f3.ntmps-args.length) (.d .undef)) h (kFin env.P h.length false [.tmp 2]):=
 aV (mode:=1) kr Tryz.func3 kr kr HV kr kr
noncomputable def vS:SC:=bD Tryz.f3 0
theorem y5:aM env call L nf thaw live (lP 0) m (n+1) s h k=aK env call L nf thaw live lP vS s h (bE env call L nf thaw live (lP 0) m n k):=
 aQ HV kr
noncomputable def AX:SC:=aY Tryz.f8
noncomputable def OP:Nat->Code:=lpOf Tryz.f8
theorem M2:aP (aS Tryz.f8)=true:=kr
theorem M5:aA env L (n+1) 8 args h=aK env (aA env L n) L h.length [] ([]) OP AX (args++List.replicate (Tryz.f8.ntmps-args.length) (.d .undef)) h (kFin env.P h.length false Tryz.f8.results.toList):=
 aV (mode:=2) kr Tryz.func8 kr kr M2 kr kr
noncomputable def kF:SC:=aY Tryz.f9
noncomputable def cV:Nat->Code:=lpOf Tryz.f9
theorem rH:aP (aS Tryz.f9)=true:=kr
theorem mF:aA env L (n+1) 9 args h=aK env (aA env L n) L h.length [] Bz1 cV kF (args++List.replicate (Tryz.f9.ntmps-args.length) (.d .undef)) h (kFin env.P h.length true [.tmp 4,.tmp 5]):=
 aV (mode:=3) kr Tryz.func9 kr kr rH kr kr
noncomputable def oO:SC:=bD Tryz.f9 0
theorem pL:aM env call L nf thaw live (cV 0) m (n+1) s h k=aK env call L nf thaw live cV oO s h (bE env call L nf thaw live (cV 0) m n k):=
 aQ rH kr
noncomputable def oX:SC:=bD Tryz.f9 1
theorem qH:aM env call L nf thaw live (cV 1) m (n+1) s h k=aK env call L nf thaw live cV oX s h (bE env call L nf thaw live (cV 1) m n k):=
 aQ rH kr
noncomputable def uT:SC:=bD Tryz.f9 2
theorem yO:aM env call L nf thaw live (cV 2) m (n+1) s h k=aK env call L nf thaw live cV uT s h (bE env call L nf thaw live (cV 2) m n k):=
 aQ rH kr
noncomputable def kH:SC:=aY Tryz.f10
noncomputable def cT:Nat->Code:=lpOf Tryz.f10
theorem qN:aP (aS Tryz.f10)=true:=kr
theorem lQ:aA env L (n+1) 10 args h=aK env (aA env L n) L h.length [] Bz10 cT kH (args++List.replicate (Tryz.f10.ntmps-args.length) (.d .undef)) h (kFin env.P h.length false [.tmp 4,.tmp 5]):=
 aV (mode:=2) kr Tryz.func10 kr kr qN kr kr
noncomputable def oS:SC:=bD Tryz.f10 0
theorem qF:aM env call L nf thaw live (cT 0) m (n+1) s h k=aK env call L nf thaw live cT oS s h (bE env call L nf thaw live (cT 0) m n k):=
 aQ qN kr
noncomputable def o8:SC:=bD Tryz.f10 1
theorem pU:aM env call L nf thaw live (cT 1) m (n+1) s h k=aK env call L nf thaw live cT o8 s h (bE env call L nf thaw live (cT 1) m n k):=
 aQ qN kr
noncomputable def o7:SC:=bD Tryz.f10 2
theorem pX:aM env call L nf thaw live (cT 2) m (n+1) s h k=aK env call L nf thaw live cT o7 s h (bE env call L nf thaw live (cT 2) m n k):=
 aQ qN kr
noncomputable def SF:SC:=aY Tryz.f11
noncomputable def p9:Nat->Code:=lpOf Tryz.f11
theorem PB:aP (aS Tryz.f11)=true:=kr
theorem aFv:aA env L (n+1) 11 args h=aK env (aA env L n) L h.length [] Bz53 p9 SF (args++List.replicate (Tryz.f11.ntmps-args.length) (.d .undef)) h (kFin env.P h.length false [.tmp 4]):=
 aV (mode:=1) kr Tryz.func11 kr kr PB kr kr
noncomputable def zZ:SC:=bD Tryz.f11 0
theorem CZ:aM env call L nf thaw live (p9 0) m (n+1) s h k=aK env call L nf thaw live p9 zZ s h (bE env call L nf thaw live (p9 0) m n k):=
 aQ PB kr
noncomputable def mA:SC:=aY Tryz.f12
noncomputable def kU:Nat->Code:=lpOf Tryz.f12
theorem FF:aP (aS Tryz.f12)=true:=kr
theorem pC:aA env L (n+1) 12 args h=aK env (aA env L n) L h.length [] Bz40 kU mA (args++List.replicate (Tryz.f12.ntmps-args.length) (.d .undef)) h (kFin env.P h.length false [.tmp 4]):=
 aV (mode:=1) kr Tryz.func12 kr kr FF kr kr
noncomputable def m8:SC:=bD Tryz.f12 0
theorem oM:aM env call L nf thaw live (kU 0) m (n+1) s h k=aK env call L nf thaw live kU m8 s h (bE env call L nf thaw live (kU 0) m n k):=
 aQ FF kr
noncomputable def H1:SC:=aY Tryz.f14
noncomputable def kT:Nat->Code:=lpOf Tryz.f14
theorem E9:aP (aS Tryz.f14)=true:=kr
theorem YD:aA env L (n+1) 14 args h=aK env (aA env L n) L h.length [0,0,0,2] Bz42 kT H1 (args++List.replicate (Tryz.f14.ntmps-args.length) (.d .undef)) h (kFin env.P h.length true [.tmp 2]):=
 aV (mode:=3) kr Tryz.func14 kr kr E9 kr kr
noncomputable def nC:SC:=bD Tryz.f14 0
theorem oL:aM env call L nf thaw live (kT 0) m (n+1) s h k=aK env call L nf thaw live kT nC s h (bE env call L nf thaw live (kT 0) m n k):=
 aQ E9 kr
noncomputable def wR:SC:=aY Tryz.f15
noncomputable def cN:Nat->Code:=lpOf Tryz.f15
theorem mY:aP (aS Tryz.f15)=true:=kr
theorem KQ:aA env L (n+1) 15 args h=aK env (aA env L n) L h.length [] Bz14 cN wR (args++List.replicate (Tryz.f15.ntmps-args.length) (.d .undef)) h (kFin env.P h.length true [.tmp 2]):=
 aV (mode:=3) kr Tryz.func15 kr kr mY kr kr
noncomputable def mK:SC:=bD Tryz.f15 0
theorem pM:aM env call L nf thaw live (cN 0) m (n+1) s h k=aK env call L nf thaw live cN mK s h (bE env call L nf thaw live (cN 0) m n k):=
 aQ mY kr
noncomputable def fW:SC:=bD Tryz.f15 1
theorem gF:aM env call L nf thaw live (cN 1) m (n+1) s h k=aK env call L nf thaw live cN fW s h (bE env call L nf thaw live (cN 1) m n k):=
 aQ mY kr
noncomputable def HB:SC:=aY Tryz.f27
noncomputable def aFd:Nat->Code:=lpOf Tryz.f27
theorem aEh:aP (aS Tryz.f27)=true:=kr
theorem NH:aA env L (n+1) 27 args h=aK env (aA env L n) L h.length [] ([]) aFd HB (args++List.replicate (Tryz.f27.ntmps-args.length) (.d .undef)) h (kFin env.P h.length true [.tmp 2]):=
 aV (mode:=2) kr Tryz.func27 kr kr aEh kr kr
noncomputable def iL:SC:=aY Tryz.f28
noncomputable def aEZ:Nat->Code:=lpOf Tryz.f28
theorem aE0:aP (aS Tryz.f28)=true:=kr
theorem iX:aA env L (n+1) 28 args h=aK env (aA env L n) L h.length [] ([]) aEZ iL (args++List.replicate (Tryz.f28.ntmps-args.length) (.d .undef)) h (kFin env.P h.length false Tryz.f28.results.toList):=
 aV (mode:=0) kr Tryz.func28 kr kr aE0 kr kr
noncomputable def P0:SC:=aY Tryz.f29
noncomputable def aC1:Nat->Code:=lpOf Tryz.f29
theorem aCK:aP (aS Tryz.f29)=true:=kr
theorem aDi:aA env L (n+1) 29 args h=aK env (aA env L n) L h.length [] ([]) aC1 P0 (args++List.replicate (Tryz.f29.ntmps-args.length) (.d .undef)) h (kFin env.P h.length false [.tmp 2]):=
 aV (mode:=0) kr Tryz.func29 kr kr aCK kr kr
noncomputable def eR:SC:=aY Tryz.f30
noncomputable def c7:Nat->Code:=lpOf Tryz.f30
theorem oN:aP (aS Tryz.f30)=true:=kr
theorem fD:aA env L (n+1) 30 args h=aK env (aA env L n) L h.length [] Bz7 c7 eR (args++List.replicate (Tryz.f30.ntmps-args.length) (.d .undef)) h (kFin env.P h.length false [.tmp 2]):=
 aV (mode:=1) kr Tryz.func30 kr kr oN kr kr
noncomputable def gT:SC:=bD Tryz.f30 0
theorem iD:aM env call L nf thaw live (c7 0) m (n+1) s h k=aK env call L nf thaw live c7 gT s h (bE env call L nf thaw live (c7 0) m n k):=
 aQ oN kr
noncomputable def gP:SC:=bD Tryz.f30 1
theorem hZ:aM env call L nf thaw live (c7 1) m (n+1) s h k=aK env call L nf thaw live c7 gP s h (bE env call L nf thaw live (c7 1) m n k):=
 aQ oN kr
noncomputable def LD:SC:=aY Tryz.f31
noncomputable def cU:Nat->Code:=lpOf Tryz.f31
theorem qL:aP (aS Tryz.f31)=true:=kr
theorem aAp:aA env L (n+1) 31 args h=aK env (aA env L n) L h.length (W8 (W4 [2002])) Bz4 cU LD (args++List.replicate (Tryz.f31.ntmps-args.length) (.d .undef)) h (kFin env.P h.length false [.tmp 4]):=
 aV (mode:=2) kr Tryz.func31 kr kr qL kr kr
noncomputable def v8:SC:=bD Tryz.f31 0
theorem yZ:aM env call L nf thaw live (cU 0) m (n+1) s h k=aK env call L nf thaw live cU v8 s h (bE env call L nf thaw live (cU 0) m n k):=
 aQ qL kr
noncomputable def wB:SC:=bD Tryz.f31 1
theorem zO:aM env call L nf thaw live (cU 1) m (n+1) s h k=aK env call L nf thaw live cU wB s h (bE env call L nf thaw live (cU 1) m n k):=
 aQ qL kr
noncomputable def vG:SC:=bD Tryz.f31 2
theorem zE:aM env call L nf thaw live (cU 2) m (n+1) s h k=aK env call L nf thaw live cU vG s h (bE env call L nf thaw live (cU 2) m n k):=
 aQ qL kr
theorem wN{L n:Nat}{args:List A}{h:H}:aA env L (n+1) 32 args h=x2 66 34 args h:=by
 have:env.prim 32=some (x2 66 34):=kr;simp only[aA,this]
noncomputable def hY:SC:=aY Tryz.f33
noncomputable def nD:Nat->Code:=lpOf Tryz.f33
theorem mV:aP (aS Tryz.f33)=true:=kr
theorem mX:aA env L (n+1) 33 args h=aK env (aA env L n) L h.length [] ([]) nD hY (args++List.replicate (Tryz.f33.ntmps-args.length) (.d .undef)) h (kFin env.P h.length true [.tmp 2]):=
 aV (mode:=0) kr Tryz.func33 kr kr mV kr kr
noncomputable def N2:SC:=aY Tryz.f34
noncomputable def aCM:Nat->Code:=lpOf Tryz.f34
theorem aCS:aP (aS Tryz.f34)=true:=kr
noncomputable def eN:SC:=aY Tryz.f35
noncomputable def iE:Nat->Code:=lpOf Tryz.f35
theorem wP:aP (aS Tryz.f35)=true:=kr
theorem fE:aA env L (n+1) 35 args h=aK env (aA env L n) L h.length [] Bz48 iE eN (args++List.replicate (Tryz.f35.ntmps-args.length) (.d .undef)) h (kFin env.P h.length false [.tmp 2]):=
 aV (mode:=1) kr Tryz.func35 kr kr wP kr kr
noncomputable def jN:SC:=bD Tryz.f35 0
theorem kD:aM env call L nf thaw live (iE 0) m (n+1) s h k=aK env call L nf thaw live iE jN s h (bE env call L nf thaw live (iE 0) m n k):=
 aQ wP kr
noncomputable def x6:SC:=aY Tryz.f36
noncomputable def kS:Nat->Code:=lpOf Tryz.f36
theorem FO:aP (aS Tryz.f36)=true:=kr
theorem FY:aA env L (n+1) 36 args h=aK env (aA env L n) L h.length [] Bz54 kS x6 (args++List.replicate (Tryz.f36.ntmps-args.length) (.d .undef)) h (kFin env.P h.length false [.tmp 2]):=
 aV (mode:=2) kr Tryz.func36 kr kr FO kr kr
noncomputable def tR:SC:=bD Tryz.f36 0
theorem wX:aM env call L nf thaw live (kS 0) m (n+1) s h k=aK env call L nf thaw live kS tR s h (bE env call L nf thaw live (kS 0) m n k):=
 aQ FO kr
noncomputable def oI:SC:=aY Tryz.f37
noncomputable def cM:Nat->Code:=lpOf Tryz.f37
theorem m9:aP (aS Tryz.f37)=true:=kr
theorem uO:aA env L (n+1) 37 args h=aK env (aA env L n) L h.length [] Bz32 cM oI (args++List.replicate (Tryz.f37.ntmps-args.length) (.d .undef)) h (kFin env.P h.length false [.tmp 2]):=
 aV (mode:=2) kr Tryz.func37 kr kr m9 kr kr
noncomputable def mB:SC:=bD Tryz.f37 0
theorem qB:aM env call L nf thaw live (cM 0) m (n+1) s h k=aK env call L nf thaw live cM mB s h (bE env call L nf thaw live (cM 0) m n k):=
 aQ m9 kr
noncomputable def fU:SC:=bD Tryz.f37 1
theorem gE:aM env call L nf thaw live (cM 1) m (n+1) s h k=aK env call L nf thaw live cM fU s h (bE env call L nf thaw live (cM 1) m n k):=
 aQ m9 kr
noncomputable def LH:SC:=aY Tryz.f38
noncomputable def eB:Nat->Code:=lpOf Tryz.f38
theorem xA:aP (aS Tryz.f38)=true:=kr
theorem aAd:aA env L (n+1) 38 args h=aK env (aA env L n) L h.length [] Bz11 eB LH (args++List.replicate (Tryz.f38.ntmps-args.length) (.d .undef)) h (kFin env.P h.length false [.tmp 4]):=
 aV (mode:=2) kr Tryz.func38 kr kr xA kr kr
noncomputable def oV:SC:=bD Tryz.f38 0
theorem pH:aM env call L nf thaw live (eB 0) m (n+1) s h k=aK env call L nf thaw live eB oV s h (bE env call L nf thaw live (eB 0) m n k):=
 aQ xA kr
noncomputable def wE:SC:=bD Tryz.f38 1
theorem zG:aM env call L nf thaw live (eB 1) m (n+1) s h k=aK env call L nf thaw live eB wE s h (bE env call L nf thaw live (eB 1) m n k):=
 aQ xA kr
noncomputable def BO:SC:=aY Tryz.f39
noncomputable def sM:Nat->Code:=lpOf Tryz.f39
theorem SV:aP (aS Tryz.f39)=true:=kr
theorem GV:aA env L (n+1) 39 args h=aK env (aA env L n) L h.length [] Bz49 sM BO (args++List.replicate (Tryz.f39.ntmps-args.length) (.d .undef)) h (kFin env.P h.length false [.tmp 4]):=
 aV (mode:=0) kr Tryz.func39 kr kr SV kr kr
noncomputable def DX:SC:=bD Tryz.f39 0
theorem FP:aM env call L nf thaw live (sM 0) m (n+1) s h k=aK env call L nf thaw live sM DX s h (bE env call L nf thaw live (sM 0) m n k):=
 aQ SV kr
noncomputable def H4:SC:=aY Tryz.f40
noncomputable def XJ:Nat->Code:=lpOf Tryz.f40
theorem YP:aP (aS Tryz.f40)=true:=kr
theorem V3:aA env L (n+1) 40 args h=aK env (aA env L n) L h.length [] ([]) XJ H4 (args++List.replicate (Tryz.f40.ntmps-args.length) (.d .undef)) h (kFin env.P h.length false [.tmp 2]):=
 aV (mode:=1) kr Tryz.func40 kr kr YP kr kr
noncomputable def aG2:SC:=aY Tryz.f41
noncomputable def aLz:Nat->Code:=lpOf Tryz.f41
theorem aLo:aP (aS Tryz.f41)=true:=kr
theorem aLc:aA env L (n+1) 41 args h=aK env (aA env L n) L h.length [] ([]) aLz aG2 (args++List.replicate (Tryz.f41.ntmps-args.length) (.d .undef)) h (kFin env.P h.length false [.tmp 4]):=
 aV (mode:=1) kr Tryz.func41 kr kr aLo kr kr
noncomputable def NB:SC:=aY Tryz.f42
noncomputable def aCN:Nat->Code:=lpOf Tryz.f42
theorem aCO:aP (aS Tryz.f42)=true:=kr
theorem aCR:aA env L (n+1) 42 args h=aK env (aA env L n) L h.length [] ([]) aCN NB (args++List.replicate (Tryz.f42.ntmps-args.length) (.d .undef)) h (kFin env.P h.length false [.tmp 4]):=
 aV (mode:=1) kr Tryz.func42 kr kr aCO kr kr
noncomputable def xR:SC:=aY Tryz.f44
noncomputable def WH:Nat->Code:=lpOf Tryz.f44
theorem ZQ:aP (aS Tryz.f44)=true:=kr
theorem EP:aA env L (n+1) 44 args h=aK env (aA env L n) L h.length [] ([]) WH xR (args++List.replicate (Tryz.f44.ntmps-args.length) (.d .undef)) h (kFin env.P h.length false [.tmp 4,.tmp 5]):=
 aV (mode:=1) kr Tryz.func44 kr kr ZQ kr kr
theorem r6{L n:Nat}{args:List A}{h:H}:aA env L (n+1) 45 args h=DY 34 args h:=by
 have:env.prim 45=some (DY 34):=kr;simp only[aA,this]
noncomputable def gS:SC:=aY Tryz.f46
noncomputable def U0:Nat->Code:=lpOf Tryz.f46
theorem UT:aP (aS Tryz.f46)=true:=kr
theorem iH:aA env L (n+1) 46 args h=aK env (aA env L n) L h.length [] ([]) U0 gS (args++List.replicate (Tryz.f46.ntmps-args.length) (.d .undef)) h (kFin env.P h.length false [.tmp 6,.tmp 7]):=
 aV (mode:=1) kr Tryz.func46 kr kr UT kr kr
noncomputable def kC:SC:=aY Tryz.f47
noncomputable def tF:Nat->Code:=lpOf Tryz.f47
theorem tI:aP (aS Tryz.f47)=true:=kr
theorem tJ:aA env L (n+1) 47 args h=aK env (aA env L n) L h.length [] ([]) tF kC (args++List.replicate (Tryz.f47.ntmps-args.length) (.d .undef)) h (kFin env.P h.length false [.tmp 4]):=
 aV (mode:=1) kr Tryz.func47 kr kr tI kr kr
noncomputable def fI:SC:=aY Tryz.f48
noncomputable def aC6:Nat->Code:=lpOf Tryz.f48
theorem aDf:aP (aS Tryz.f48)=true:=kr
theorem fK:aA env L (n+1) 48 args h=aK env (aA env L n) L h.length (W32 (W32 (W16 (W8 (W4 (W1 [1002])))))) ([]) aC6 fI (args++List.replicate (Tryz.f48.ntmps-args.length) (.d .undef)) h (kFin env.P h.length false Tryz.f48.results.toList):=
 aV (mode:=0) kr Tryz.func48 kr kr aDf kr kr
noncomputable def lS:SC:=aY Tryz.f49
noncomputable def X3:Nat->Code:=lpOf Tryz.f49
theorem ZO:aP (aS Tryz.f49)=true:=kr
theorem oY:aA env L (n+1) 49 args h=aK env (aA env L n) L h.length [] ([]) X3 lS (args++List.replicate (Tryz.f49.ntmps-args.length) (.d .undef)) h (kFin env.P h.length false [.tmp 4]):=
 aV (mode:=0) kr Tryz.func49 kr kr ZO kr kr
noncomputable def J2:SC:=aY Tryz.f50
noncomputable def aGI:Nat->Code:=lpOf Tryz.f50
theorem aGn:aP (aS Tryz.f50)=true:=kr
theorem R5:aA env L (n+1) 50 args h=aK env (aA env L n) L h.length [] ([]) aGI J2 (args++List.replicate (Tryz.f50.ntmps-args.length) (.d .undef)) h (kFin env.P h.length false Tryz.f50.results.toList):=
 aV (mode:=0) kr Tryz.func50 kr kr aGn kr kr
noncomputable def FV:SC:=aY Tryz.f56
noncomputable def U9:Nat->Code:=lpOf Tryz.f56
theorem TV:aP (aS Tryz.f56)=true:=kr
theorem UF:aA env L (n+1) 56 args h=aK env (aA env L n) L h.length [] ([]) U9 FV (args++List.replicate (Tryz.f56.ntmps-args.length) (.d .undef)) h (kFin env.P h.length false [.tmp 10,.tmp 11]):=
 aV (mode:=1) kr Tryz.func56 kr kr TV kr kr
noncomputable def dD:SC:=aY Tryz.f59
noncomputable def mN:Nat->Code:=lpOf Tryz.f59
theorem O8:aP (aS Tryz.f59)=true:=kr
theorem cY:aA env L (n+1) 59 args h=aK env (aA env L n) L h.length (W32 (W32 (W16 (W2 (W1 [1002,0,0,0,0,0,0,0,0,0,0,0,0,0,0,0,0,0,0,0,0,0,1002]))))) Bz18 mN dD (args++List.replicate (Tryz.f59.ntmps-args.length) (.d .undef)) h (kFin env.P h.length false Tryz.f59.results.toList):=
 aV (mode:=0) kr Tryz.func59 kr kr O8 kr kr
noncomputable def s9:SC:=bD Tryz.f59 0
theorem tK:aM env call L nf thaw live (mN 0) m (n+1) s h k=aK env call L nf thaw live mN s9 s h (bE env call L nf thaw live (mN 0) m n k):=
 aQ O8 kr
noncomputable def aBo:SC:=aY Tryz.f60
noncomputable def rE:Nat->Code:=lpOf Tryz.f60
theorem YE:aP (aS Tryz.f60)=true:=kr
theorem aIt:aA env L (n+1) 60 args h=aK env (aA env L n) L h.length [] Bz21 rE aBo (args++List.replicate (Tryz.f60.ntmps-args.length) (.d .undef)) h (kFin env.P h.length false Tryz.f60.results.toList):=
 aV (mode:=0) kr Tryz.func60 kr kr YE kr kr
noncomputable def yK:SC:=bD Tryz.f60 0
theorem xI:aM env call L nf thaw live (rE 0) m (n+1) s h k=aK env call L nf thaw live rE yK s h (bE env call L nf thaw live (rE 0) m n k):=
 aQ YE kr
noncomputable def NN:SC:=aY Tryz.f61
noncomputable def d8:Nat->Code:=lpOf Tryz.f61
theorem AF:aP (aS Tryz.f61)=true:=kr
theorem aDl:aA env L (n+1) 61 args h=aK env (aA env L n) L h.length (W32 (W4 (W1 [1002]))) Bz5 d8 NN (args++List.replicate (Tryz.f61.ntmps-args.length) (.d .undef)) h (kFin env.P h.length true Tryz.f61.results.toList):=
 aV (mode:=0) kr Tryz.func61 kr kr AF kr kr
noncomputable def qV:SC:=bD Tryz.f61 0
theorem r8:aM env call L nf thaw live (d8 0) m (n+1) s h k=aK env call L nf thaw live d8 qV s h (bE env call L nf thaw live (d8 0) m n k):=
 aQ AF kr
noncomputable def mD:SC:=bD Tryz.f61 1
theorem lM:aM env call L nf thaw live (d8 1) m (n+1) s h k=aK env call L nf thaw live d8 mD s h (bE env call L nf thaw live (d8 1) m n k):=
 aQ AF kr
noncomputable def LK:SC:=aY Tryz.f62
noncomputable def Z7:Nat->Code:=lpOf Tryz.f62
theorem aAg:aP (aS Tryz.f62)=true:=kr
theorem aAa:aA env L (n+1) 62 args h=aK env (aA env L n) L h.length [] ([]) Z7 LK (args++List.replicate (Tryz.f62.ntmps-args.length) (.d .undef)) h (kFin env.P h.length false [.tmp 4]):=
 aV (mode:=0) kr Tryz.func62 kr kr aAg kr kr
noncomputable def LS:SC:=aY Tryz.f63
noncomputable def j2:Nat->Code:=lpOf Tryz.f63
theorem IN:aP (aS Tryz.f63)=true:=kr
theorem aAN:aA env L (n+1) 63 args h=aK env (aA env L n) L h.length [0,0,0,2] Bz24 j2 LS (args++List.replicate (Tryz.f63.ntmps-args.length) (.d .undef)) h (kFin env.P h.length false [.tmp 2]):=
 aV (mode:=2) kr Tryz.func63 kr kr IN kr kr
noncomputable def oT:SC:=bD Tryz.f63 0
theorem qJ:aM env call L nf thaw live (j2 0) m (n+1) s h k=aK env call L nf thaw live j2 oT s h (bE env call L nf thaw live (j2 0) m n k):=
 aQ IN kr
noncomputable def HR:SC:=aY Tryz.f64
noncomputable def YH:Nat->Code:=lpOf Tryz.f64
theorem XU:aP (aS Tryz.f64)=true:=kr
theorem W7:aA env L (n+1) 64 args h=aK env (aA env L n) L h.length [] ([]) YH HR (args++List.replicate (Tryz.f64.ntmps-args.length) (.d .undef)) h (kFin env.P h.length false [.tmp 2]):=
 aV (mode:=1) kr Tryz.func64 kr kr XU kr kr
noncomputable def CR:SC:=aY Tryz.f67
noncomputable def n5:Nat->Code:=lpOf Tryz.f67
theorem ME:aP (aS Tryz.f67)=true:=kr
noncomputable def rM:SC:=bD Tryz.f67 0
noncomputable def lO:SC:=aY Tryz.f68
noncomputable def NK:Nat->Code:=lpOf Tryz.f68
theorem M4:aP (aS Tryz.f68)=true:=kr
noncomputable def jO:SC:=aY Tryz.f69
noncomputable def IG:Nat->Code:=lpOf Tryz.f69
theorem I5:aP (aS Tryz.f69)=true:=kr
noncomputable def HP:SC:=aY Tryz.f70
noncomputable def ZW:Nat->Code:=lpOf Tryz.f70
theorem ZG:aP (aS Tryz.f70)=true:=kr
theorem YW:aA env L (n+1) 70 args h=aK env (aA env L n) L h.length [] ([]) ZW HP (args++List.replicate (Tryz.f70.ntmps-args.length) (.d .undef)) h (kFin env.P h.length false [.tmp 2]):=
 aV (mode:=1) kr Tryz.func70 kr kr ZG kr kr
noncomputable def FR:SC:=aY Tryz.f71
noncomputable def vK:Nat->Code:=lpOf Tryz.f71
theorem WX:aP (aS Tryz.f71)=true:=kr
theorem JH:aA env L (n+1) 71 args h=aK env (aA env L n) L h.length [] Bz29 vK FR (args++List.replicate (Tryz.f71.ntmps-args.length) (.d .undef)) h (kFin env.P h.length false [.tmp 6]):=
 aV (mode:=1) kr Tryz.func71 kr kr WX kr kr
noncomputable def sK:SC:=bD Tryz.f71 0
theorem rI:aM env call L nf thaw live (vK 0) m (n+1) s h k=aK env call L nf thaw live vK sK s h (bE env call L nf thaw live (vK 0) m n k):=
 aQ WX kr
noncomputable def LE:SC:=aY Tryz.f72
noncomputable def mC:Nat->Code:=lpOf Tryz.f72
theorem HO:aP (aS Tryz.f72)=true:=kr
theorem aAu:aA env L (n+1) 72 args h=aK env (aA env L n) L h.length [] Bz45 mC LE (args++List.replicate (Tryz.f72.ntmps-args.length) (.d .undef)) h (kFin env.P h.length false [.tmp 2]):=
 aV (mode:=2) kr Tryz.func72 kr kr HO kr kr
noncomputable def oQ:SC:=bD Tryz.f72 0
theorem pY:aM env call L nf thaw live (mC 0) m (n+1) s h k=aK env call L nf thaw live mC oQ s h (bE env call L nf thaw live (mC 0) m n k):=
 aQ HO kr
noncomputable def XZ:SC:=aY Tryz.f73
noncomputable def iQ:Nat->Code:=lpOf Tryz.f73
theorem HD:aP (aS Tryz.f73)=true:=kr
theorem aGG:aA env L (n+1) 73 args h=aK env (aA env L n) L h.length [] Bz19 iQ XZ (args++List.replicate (Tryz.f73.ntmps-args.length) (.d .undef)) h (kFin env.P h.length false Tryz.f73.results.toList):=
 aV (mode:=2) kr Tryz.func73 kr kr HD kr kr
noncomputable def vX:SC:=bD Tryz.f73 0
theorem u7:aM env call L nf thaw live (iQ 0) m (n+1) s h k=aK env call L nf thaw live iQ vX s h (bE env call L nf thaw live (iQ 0) m n k):=
 aQ HD kr
noncomputable def DU:SC:=bD Tryz.f73 1
theorem ER:aM env call L nf thaw live (iQ 1) m (n+1) s h k=aK env call L nf thaw live iQ DU s h (bE env call L nf thaw live (iQ 1) m n k):=
 aQ HD kr
noncomputable def qP:SC:=aY Tryz.f74
noncomputable def W6:Nat->Code:=lpOf Tryz.f74
theorem ZA:aP (aS Tryz.f74)=true:=kr
theorem vA:aA env L (n+1) 74 args h=aK env (aA env L n) L h.length [] ([]) W6 qP (args++List.replicate (Tryz.f74.ntmps-args.length) (.d .undef)) h (kFin env.P h.length false [.tmp 4,.tmp 5]):=
 aV (mode:=1) kr Tryz.func74 kr kr ZA kr kr
noncomputable def kV:SC:=aY Tryz.f75
noncomputable def VV:Nat->Code:=lpOf Tryz.f75
theorem VU:aP (aS Tryz.f75)=true:=kr
theorem m6:aA env L (n+1) 75 args h=aK env (aA env L n) L h.length [] ([]) VV kV (args++List.replicate (Tryz.f75.ntmps-args.length) (.d .undef)) h (kFin env.P h.length false [.tmp 6,.tmp 7]):=
 aV (mode:=1) kr Tryz.func75 kr kr VU kr kr
noncomputable def NM:SC:=aY Tryz.f76
noncomputable def uU:Nat->Code:=lpOf Tryz.f76
theorem XG:aP (aS Tryz.f76)=true:=kr
theorem YZ:aA env L (n+1) 76 args h=aK env (aA env L n) L h.length [] Bz27 uU NM (args++List.replicate (Tryz.f76.ntmps-args.length) (.d .undef)) h (kFin env.P h.length false [.tmp 4]):=
 aV (mode:=1) kr Tryz.func76 kr kr XG kr kr
noncomputable def yM:SC:=bD Tryz.f76 0
theorem xE:aM env call L nf thaw live (uU 0) m (n+1) s h k=aK env call L nf thaw live uU yM s h (bE env call L nf thaw live (uU 0) m n k):=
 aQ XG kr
noncomputable def ZR:SC:=aY Tryz.f77
noncomputable def aF3:Nat->Code:=lpOf Tryz.f77
theorem aF7:aP (aS Tryz.f77)=true:=kr
theorem aGh:aA env L (n+1) 77 args h=aK env (aA env L n) L h.length [] ([]) aF3 ZR (args++List.replicate (Tryz.f77.ntmps-args.length) (.d .undef)) h (kFin env.P h.length false [.tmp 2]):=
 aV (mode:=1) kr Tryz.func77 kr kr aF7 kr kr
noncomputable def N5:SC:=aY Tryz.f78
noncomputable def nZ:Nat->Code:=lpOf Tryz.f78
theorem L3:aP (aS Tryz.f78)=true:=kr
theorem aC7:aA env L (n+1) 78 args h=aK env (aA env L n) L h.length [] Bz50 nZ N5 (args++List.replicate (Tryz.f78.ntmps-args.length) (.d .undef)) h (kFin env.P h.length false [.tmp 4]):=
 aV (mode:=1) kr Tryz.func78 kr kr L3 kr kr
noncomputable def mM:SC:=bD Tryz.f78 0
theorem lK:aM env call L nf thaw live (nZ 0) m (n+1) s h k=aK env call L nf thaw live nZ mM s h (bE env call L nf thaw live (nZ 0) m n k):=
 aQ L3 kr
noncomputable def LM:SC:=aY Tryz.f79
noncomputable def aAR:Nat->Code:=lpOf Tryz.f79
theorem aAb:aP (aS Tryz.f79)=true:=kr
theorem aAr:aA env L (n+1) 79 args h=aK env (aA env L n) L h.length [] ([]) aAR LM (args++List.replicate (Tryz.f79.ntmps-args.length) (.d .undef)) h (kFin env.P h.length false [.tmp 4,.tmp 5]):=
 aV (mode:=1) kr Tryz.func79 kr kr aAb kr kr
noncomputable def r9:SC:=aY Tryz.f80
noncomputable def OE:Nat->Code:=lpOf Tryz.f80
theorem PD:aP (aS Tryz.f80)=true:=kr
theorem yT:aA env L (n+1) 80 args h=aK env (aA env L n) L h.length [] ([]) OE r9 (args++List.replicate (Tryz.f80.ntmps-args.length) (.d .undef)) h (kFin env.P h.length false [.tmp 3]):=
 aV (mode:=0) kr Tryz.func80 kr kr PD kr kr
noncomputable def y3:SC:=aY Tryz.f83
noncomputable def MQ:Nat->Code:=lpOf Tryz.f83
theorem MZ:aP (aS Tryz.f83)=true:=kr
theorem MS:aA env L (n+1) 83 args h=aK env (aA env L n) L h.length [] ([]) MQ y3 (args++List.replicate (Tryz.f83.ntmps-args.length) (.d .undef)) h (kFin env.P h.length false [.tmp 4]):=
 aV (mode:=0) kr Tryz.func83 kr kr MZ kr kr
noncomputable def iI:SC:=aY Tryz.f84
noncomputable def dN:Nat->Code:=lpOf Tryz.f84
theorem lH:aP (aS Tryz.f84)=true:=kr
theorem lJ:aA env L (n+1) 84 args h=aK env (aA env L n) L h.length [] Bz46 dN iI (args++List.replicate (Tryz.f84.ntmps-args.length) (.d .undef)) h (kFin env.P h.length false [.tmp 4]):=
 aV (mode:=1) kr Tryz.func84 kr kr lH kr kr
noncomputable def eH:SC:=bD Tryz.f84 0
theorem fJ:aM env call L nf thaw live (dN 0) m (n+1) s h k=aK env call L nf thaw live dN eH s h (bE env call L nf thaw live (dN 0) m n k):=
 aQ lH kr
noncomputable def JU:SC:=aY Tryz.f85
noncomputable def jS:Nat->Code:=lpOf Tryz.f85
theorem TC:aP (aS Tryz.f85)=true:=kr
theorem R9:aA env L (n+1) 85 args h=aK env (aA env L n) L h.length (W16 (W8 (W4 [1002]))) Bz12 jS JU (args++List.replicate (Tryz.f85.ntmps-args.length) (.d .undef)) h (kFin env.P h.length true Tryz.f85.results.toList):=
 aV (mode:=2) kr Tryz.func85 kr kr TC kr kr
noncomputable def pN:SC:=bD Tryz.f85 0
theorem pD:aM env call L nf thaw live (jS 0) m (n+1) s h k=aK env call L nf thaw live jS pN s h (bE env call L nf thaw live (jS 0) m n k):=
 aQ TC kr
noncomputable def M6:SC:=aY Tryz.f87
noncomputable def aCJ:Nat->Code:=lpOf Tryz.f87
theorem aCP:aP (aS Tryz.f87)=true:=kr
theorem aCT:aA env L (n+1) 87 args h=aK env (aA env L n) L h.length [] ([]) aCJ M6 (args++List.replicate (Tryz.f87.ntmps-args.length) (.d .undef)) h (kFin env.P h.length false [.tmp 4]):=
 aV (mode:=0) kr Tryz.func87 kr kr aCP kr kr
noncomputable def JZ:SC:=aY Tryz.f89
noncomputable def aF9:Nat->Code:=lpOf Tryz.f89
theorem aGE:aP (aS Tryz.f89)=true:=kr
theorem SU:aA env L (n+1) 89 args h=aK env (aA env L n) L h.length [] ([]) aF9 JZ (args++List.replicate (Tryz.f89.ntmps-args.length) (.d .undef)) h (kFin env.P h.length false Tryz.f89.results.toList):=
 aV (mode:=0) kr Tryz.func89 kr kr aGE kr kr
noncomputable def RV:SC:=aY Tryz.f92
noncomputable def dT:Nat->Code:=lpOf Tryz.f92
theorem vY:aP (aS Tryz.f92)=true:=kr
theorem aDM:aA env L (n+1) 92 args h=aK env (aA env L n) L h.length [] Bz3 dT RV (args++List.replicate (Tryz.f92.ntmps-args.length) (.d .undef)) h (kFin env.P h.length false [.tmp 2]):=
 aV (mode:=2) kr Tryz.func92 kr kr vY kr kr
noncomputable def AB:SC:=bD Tryz.f92 0
theorem EI:aM env call L nf thaw live (dT 0) m (n+1) s h k=aK env call L nf thaw live dT AB s h (bE env call L nf thaw live (dT 0) m n k):=
 aQ vY kr
noncomputable def AJ:SC:=bD Tryz.f92 1
theorem CJ:aM env call L nf thaw live (dT 1) m (n+1) s h k=aK env call L nf thaw live dT AJ s h (bE env call L nf thaw live (dT 1) m n k):=
 aQ vY kr
noncomputable def AK:SC:=bD Tryz.f92 2
theorem CK:aM env call L nf thaw live (dT 2) m (n+1) s h k=aK env call L nf thaw live dT AK s h (bE env call L nf thaw live (dT 2) m n k):=
 aQ vY kr
noncomputable def yN:SC:=aY Tryz.f93
noncomputable def MX:Nat->Code:=lpOf Tryz.f93
theorem M0:aP (aS Tryz.f93)=true:=kr
theorem MY:aA env L (n+1) 93 args h=aK env (aA env L n) L h.length [] ([]) MX yN (args++List.replicate (Tryz.f93.ntmps-args.length) (.d .undef)) h (kFin env.P h.length false [.tmp 9]):=
 aV (mode:=0) kr Tryz.func93 kr kr M0 kr kr
noncomputable def sY:SC:=aY Tryz.f94
noncomputable def cW:Nat->Code:=lpOf Tryz.f94
theorem rD:aP (aS Tryz.f94)=true:=kr
theorem xX:aA env L (n+1) 94 args h=aK env (aA env L n) L h.length (W16 (W2 [2])) Bz2 cW sY (args++List.replicate (Tryz.f94.ntmps-args.length) (.d .undef)) h (kFin env.P h.length false [.tmp 10,.tmp 11]):=
 aV (mode:=1) kr Tryz.func94 kr kr rD kr kr
noncomputable def kJ:SC:=bD Tryz.f94 0
theorem kP:aM env call L nf thaw live (cW 0) m (n+1) s h k=aK env call L nf thaw live cW kJ s h (bE env call L nf thaw live (cW 0) m n k):=
 aQ rD kr
noncomputable def oZ:SC:=bD Tryz.f94 1
theorem pS:aM env call L nf thaw live (cW 1) m (n+1) s h k=aK env call L nf thaw live cW oZ s h (bE env call L nf thaw live (cW 1) m n k):=
 aQ rD kr
noncomputable def wG:SC:=bD Tryz.f94 2
theorem zX:aM env call L nf thaw live (cW 2) m (n+1) s h k=aK env call L nf thaw live cW wG s h (bE env call L nf thaw live (cW 2) m n k):=
 aQ rD kr
noncomputable def zS:SC:=aY Tryz.f95
noncomputable def MU:Nat->Code:=lpOf Tryz.f95
theorem MK:aP (aS Tryz.f95)=true:=kr
theorem MW:aA env L (n+1) 95 args h=aK env (aA env L n) L h.length [] ([]) MU zS (args++List.replicate (Tryz.f95.ntmps-args.length) (.d .undef)) h (kFin env.P h.length false [.tmp 6]):=
 aV (mode:=0) kr Tryz.func95 kr kr MK kr kr
noncomputable def GI:SC:=aY Tryz.f99
noncomputable def VP:Nat->Code:=lpOf Tryz.f99
theorem UA:aP (aS Tryz.f99)=true:=kr
noncomputable def yY:SC:=aY Tryz.f100
noncomputable def ML:Nat->Code:=lpOf Tryz.f100
theorem MN:aP (aS Tryz.f100)=true:=kr
noncomputable def aCj:SC:=aY Tryz.f101
noncomputable def aHJ:Nat->Code:=lpOf Tryz.f101
theorem aH2:aP (aS Tryz.f101)=true:=kr
theorem aIe:aA env L (n+1) 101 args h=aK env (aA env L n) L h.length [] ([]) aHJ aCj (args++List.replicate (Tryz.f101.ntmps-args.length) (.d .undef)) h (kFin env.P h.length false [.tmp 4]):=
 aV (mode:=1) kr Tryz.func101 kr kr aH2 kr kr
noncomputable def R4:SC:=aY Tryz.f102
noncomputable def fG:Nat->Code:=lpOf Tryz.f102
theorem DL:aP (aS Tryz.f102)=true:=kr
theorem aFJ:aA env L (n+1) 102 args h=aK env (aA env L n) L h.length [] Bz26 fG R4 (args++List.replicate (Tryz.f102.ntmps-args.length) (.d .undef)) h (kFin env.P h.length false [.tmp 2]):=
 aV (mode:=2) kr Tryz.func102 kr kr DL kr kr
noncomputable def AO:SC:=bD Tryz.f102 0
theorem D6:aM env call L nf thaw live (fG 0) m (n+1) s h k=aK env call L nf thaw live fG AO s h (bE env call L nf thaw live (fG 0) m n k):=
 aQ DL kr
noncomputable def s6:SC:=bD Tryz.f102 1
theorem tQ:aM env call L nf thaw live (fG 1) m (n+1) s h k=aK env call L nf thaw live fG s6 s h (bE env call L nf thaw live (fG 1) m n k):=
 aQ DL kr
noncomputable def SD:SC:=aY Tryz.f103
noncomputable def qC:Nat->Code:=lpOf Tryz.f103
theorem ON:aP (aS Tryz.f103)=true:=kr
theorem aDO:aA env L (n+1) 103 args h=aK env (aA env L n) L h.length [] Bz57 qC SD (args++List.replicate (Tryz.f103.ntmps-args.length) (.d .undef)) h (kFin env.P h.length false [.tmp 4]):=
 aV (mode:=1) kr Tryz.func103 kr kr ON kr kr
noncomputable def z7:SC:=bD Tryz.f103 0
theorem EA:aM env call L nf thaw live (qC 0) m (n+1) s h k=aK env call L nf thaw live qC z7 s h (bE env call L nf thaw live (qC 0) m n k):=
 aQ ON kr
noncomputable def yE:SC:=aY Tryz.f104
noncomputable def aFw:Nat->Code:=lpOf Tryz.f104
theorem aFg:aP (aS Tryz.f104)=true:=kr
theorem DG:aA env L (n+1) 104 args h=aK env (aA env L n) L h.length [] ([]) aFw yE (args++List.replicate (Tryz.f104.ntmps-args.length) (.d .undef)) h (kFin env.P h.length false [.tmp 4]):=
 aV (mode:=1) kr Tryz.func104 kr kr aFg kr kr
noncomputable def yC:SC:=aY Tryz.f105
noncomputable def b7:Nat->Code:=lpOf Tryz.f105
theorem pO:aP (aS Tryz.f105)=true:=kr
theorem D9:aA env L (n+1) 105 args h=aK env (aA env L n) L h.length [] Bz0 b7 yC (args++List.replicate (Tryz.f105.ntmps-args.length) (.d .undef)) h (kFin env.P h.length false [.tmp 2,.tmp 3]):=
 aV (mode:=1) kr Tryz.func105 kr kr pO kr kr
noncomputable def zY:SC:=bD Tryz.f105 0
theorem DV:aM env call L nf thaw live (b7 0) m (n+1) s h k=aK env call L nf thaw live b7 zY s h (bE env call L nf thaw live (b7 0) m n k):=
 aQ pO kr
noncomputable def s8:SC:=bD Tryz.f105 1
theorem tM:aM env call L nf thaw live (b7 1) m (n+1) s h k=aK env call L nf thaw live b7 s8 s h (bE env call L nf thaw live (b7 1) m n k):=
 aQ pO kr
noncomputable def nW:SC:=bD Tryz.f105 2
theorem nQ:aM env call L nf thaw live (b7 2) m (n+1) s h k=aK env call L nf thaw live b7 nW s h (bE env call L nf thaw live (b7 2) m n k):=
 aQ pO kr
noncomputable def nS:SC:=bD Tryz.f105 3
theorem nM:aM env call L nf thaw live (b7 3) m (n+1) s h k=aK env call L nf thaw live b7 nS s h (bE env call L nf thaw live (b7 3) m n k):=
 aQ pO kr
noncomputable def qS:SC:=aY Tryz.f106
noncomputable def XL:Nat->Code:=lpOf Tryz.f106
theorem YX:aP (aS Tryz.f106)=true:=kr
theorem vF:aA env L (n+1) 106 args h=aK env (aA env L n) L h.length [] ([]) XL qS (args++List.replicate (Tryz.f106.ntmps-args.length) (.d .undef)) h (kFin env.P h.length false [.tmp 4]):=
 aV (mode:=1) kr Tryz.func106 kr kr YX kr kr
noncomputable def CC:SC:=aY Tryz.f107
noncomputable def RO:Nat->Code:=lpOf Tryz.f107
theorem RD:aP (aS Tryz.f107)=true:=kr
theorem RT:aA env L (n+1) 107 args h=aK env (aA env L n) L h.length [] ([]) RO CC (args++List.replicate (Tryz.f107.ntmps-args.length) (.d .undef)) h (kFin env.P h.length false [.tmp 7]):=
 aV (mode:=0) kr Tryz.func107 kr kr RD kr kr
noncomputable def ZL:SC:=aY Tryz.f122
noncomputable def f5:Nat->Code:=lpOf Tryz.f122
theorem G0:aP (aS Tryz.f122)=true:=kr
theorem aGe:aA env L (n+1) 122 args h=aK env (aA env L n) L h.length [] Bz9 f5 ZL (args++List.replicate (Tryz.f122.ntmps-args.length) (.d .undef)) h (kFin env.P h.length false Tryz.f122.results.toList):=
 aV (mode:=0) kr Tryz.func122 kr kr G0 kr kr
noncomputable def C8:SC:=bD Tryz.f122 0
theorem GN:aM env call L nf thaw live (f5 0) m (n+1) s h k=aK env call L nf thaw live f5 C8 s h (bE env call L nf thaw live (f5 0) m n k):=
 aQ G0 kr
noncomputable def C0:SC:=bD Tryz.f122 1
theorem E4:aM env call L nf thaw live (f5 1) m (n+1) s h k=aK env call L nf thaw live f5 C0 s h (bE env call L nf thaw live (f5 1) m n k):=
 aQ G0 kr
noncomputable def m4:SC:=aY Tryz.f126
noncomputable def gX:Nat->Code:=lpOf Tryz.f126
theorem A1:aP (aS Tryz.f126)=true:=kr
theorem sC:aA env L (n+1) 126 args h=aK env (aA env L n) L h.length (W8 (W2 [2])) Bz8 gX m4 (args++List.replicate (Tryz.f126.ntmps-args.length) (.d .undef)) h (kFin env.P h.length false [.tmp 9]):=
 aV (mode:=0) kr Tryz.func126 kr kr A1 kr kr
noncomputable def cJ:SC:=bD Tryz.f126 0
theorem cD:aM env call L nf thaw live (gX 0) m (n+1) s h k=aK env call L nf thaw live gX cJ s h (bE env call L nf thaw live (gX 0) m n k):=
 aQ A1 kr
noncomputable def PP:SC:=aY Tryz.f127
noncomputable def nR:Nat->Code:=lpOf Tryz.f127
theorem LP:aP (aS Tryz.f127)=true:=kr
theorem aC5:aA env L (n+1) 127 args h=aK env (aA env L n) L h.length [0,0,0,2] Bz37 nR PP (args++List.replicate (Tryz.f127.ntmps-args.length) (.d .undef)) h (kFin env.P h.length false [.tmp 2]):=
 aV (mode:=1) kr Tryz.func127 kr kr LP kr kr
noncomputable def xM:SC:=bD Tryz.f127 0
theorem A2:aM env call L nf thaw live (nR 0) m (n+1) s h k=aK env call L nf thaw live nR xM s h (bE env call L nf thaw live (nR 0) m n k):=
 aQ LP kr
noncomputable def TX:SC:=aY Tryz.f128
noncomputable def y7:Nat->Code:=lpOf Tryz.f128
theorem aCF:aP (aS Tryz.f128)=true:=kr
theorem aA7:aA env L (n+1) 128 args h=aK env (aA env L n) L h.length [] Bz27 y7 TX (args++List.replicate (Tryz.f128.ntmps-args.length) (.d .undef)) h (kFin env.P h.length false [.tmp 4]):=
 aV (mode:=1) kr Tryz.func128 kr kr aCF kr kr
noncomputable def A3:SC:=bD Tryz.f128 0
theorem AN:aM env call L nf thaw live (y7 0) m (n+1) s h k=aK env call L nf thaw live y7 A3 s h (bE env call L nf thaw live (y7 0) m n k):=
 aQ aCF kr
noncomputable def TD:SC:=aY Tryz.f129
noncomputable def gN:Nat->Code:=lpOf Tryz.f129
theorem C7:aP (aS Tryz.f129)=true:=kr
theorem aEg:aA env L (n+1) 129 args h=aK env (aA env L n) L h.length [] Bz33 gN TD (args++List.replicate (Tryz.f129.ntmps-args.length) (.d .undef)) h (kFin env.P h.length false [.tmp 2]):=
 aV (mode:=2) kr Tryz.func129 kr kr C7 kr kr
noncomputable def AD:SC:=bD Tryz.f129 0
theorem DZ:aM env call L nf thaw live (gN 0) m (n+1) s h k=aK env call L nf thaw live gN AD s h (bE env call L nf thaw live (gN 0) m n k):=
 aQ C7 kr
noncomputable def AP:SC:=bD Tryz.f129 1
theorem CO:aM env call L nf thaw live (gN 1) m (n+1) s h k=aK env call L nf thaw live gN AP s h (bE env call L nf thaw live (gN 1) m n k):=
 aQ C7 kr
noncomputable def R7:SC:=aY Tryz.f130
noncomputable def gO:Nat->Code:=lpOf Tryz.f130
theorem CM:aP (aS Tryz.f130)=true:=kr
theorem aFD:aA env L (n+1) 130 args h=aK env (aA env L n) L h.length [] Bz15 gO R7 (args++List.replicate (Tryz.f130.ntmps-args.length) (.d .undef)) h (kFin env.P h.length false [.tmp 6]):=
 aV (mode:=2) kr Tryz.func130 kr kr CM kr kr
noncomputable def AG:SC:=bD Tryz.f130 0
theorem CF:aM env call L nf thaw live (gO 0) m (n+1) s h k=aK env call L nf thaw live gO AG s h (bE env call L nf thaw live (gO 0) m n k):=
 aQ CM kr
noncomputable def AH:SC:=bD Tryz.f130 1
theorem C4:aM env call L nf thaw live (gO 1) m (n+1) s h k=aK env call L nf thaw live gO AH s h (bE env call L nf thaw live (gO 1) m n k):=
 aQ CM kr
noncomputable def kZ:SC:=aY Tryz.f131
noncomputable def aDT:Nat->Code:=lpOf Tryz.f131
theorem aE5:aP (aS Tryz.f131)=true:=kr
theorem mL:aA env L (n+1) 131 args h=aK env (aA env L n) L h.length [] (Z2 (U1 (Z2 (Z1 (U2 (Z32 (Z16 (Z8 ([]))))))))) aDT kZ (args++List.replicate (Tryz.f131.ntmps-args.length) (.d .undef)) h (kFin env.P h.length false [.tmp 6]):=
 aV (mode:=1) kr Tryz.func131 kr kr aE5 kr kr
noncomputable def P2:SC:=aY Tryz.f132
noncomputable def nU:Nat->Code:=lpOf Tryz.f132
theorem LV:aP (aS Tryz.f132)=true:=kr
theorem aCW:aA env L (n+1) 132 args h=aK env (aA env L n) L h.length [] Bz43 nU P2 (args++List.replicate (Tryz.f132.ntmps-args.length) (.d .undef)) h (kFin env.P h.length false [.tmp 4]):=
 aV (mode:=2) kr Tryz.func132 kr kr LV kr kr
noncomputable def xC:SC:=bD Tryz.f132 0
theorem AY:aM env call L nf thaw live (nU 0) m (n+1) s h k=aK env call L nf thaw live nU xC s h (bE env call L nf thaw live (nU 0) m n k):=
 aQ LV kr
noncomputable def YG:SC:=aY Tryz.f133
noncomputable def gB:Nat->Code:=lpOf Tryz.f133
theorem G8:aP (aS Tryz.f133)=true:=kr
theorem aFR:aA env L (n+1) 133 args h=aK env (aA env L n) L h.length [] Bz17 gB YG (args++List.replicate (Tryz.f133.ntmps-args.length) (.d .undef)) h (kFin env.P h.length false []):=
 aV (mode:=0) kr Tryz.func133 kr kr G8 kr kr
noncomputable def vE:SC:=bD Tryz.f133 0
theorem vL:aM env call L nf thaw live (gB 0) m (n+1) s h k=aK env call L nf thaw live gB vE s h (bE env call L nf thaw live (gB 0) m n k):=
 aQ G8 kr
noncomputable def pK:SC:=bD Tryz.f133 1
theorem oR:aM env call L nf thaw live (gB 1) m (n+1) s h k=aK env call L nf thaw live gB pK s h (bE env call L nf thaw live (gB 1) m n k):=
 aQ G8 kr
noncomputable def NS:SC:=aY Tryz.f134
noncomputable def n4:Nat->Code:=lpOf Tryz.f134
theorem MF:aP (aS Tryz.f134)=true:=kr
theorem aCU:aA env L (n+1) 134 args h=aK env (aA env L n) L h.length [] Bz51 n4 NS (args++List.replicate (Tryz.f134.ntmps-args.length) (.d .undef)) h (kFin env.P h.length false [.tmp 4]):=
 aV (mode:=1) kr Tryz.func134 kr kr MF kr kr
noncomputable def xQ:SC:=bD Tryz.f134 0
theorem AV:aM env call L nf thaw live (n4 0) m (n+1) s h k=aK env call L nf thaw live n4 xQ s h (bE env call L nf thaw live (n4 0) m n k):=
 aQ MF kr
noncomputable def O5:SC:=aY Tryz.f135
noncomputable def fL:Nat->Code:=lpOf Tryz.f135
theorem AS:aP (aS Tryz.f135)=true:=kr
theorem aDe:aA env L (n+1) 135 args h=aK env (aA env L n) L h.length [] Bz20 fL O5 (args++List.replicate (Tryz.f135.ntmps-args.length) (.d .undef)) h (kFin env.P h.length false [.tmp 10]):=
 aV (mode:=2) kr Tryz.func135 kr kr AS kr kr
noncomputable def x3:SC:=bD Tryz.f135 0
theorem A0:aM env call L nf thaw live (fL 0) m (n+1) s h k=aK env call L nf thaw live fL x3 s h (bE env call L nf thaw live (fL 0) m n k):=
 aQ AS kr
noncomputable def lX:SC:=bD Tryz.f135 1
theorem lL:aM env call L nf thaw live (fL 1) m (n+1) s h k=aK env call L nf thaw live fL lX s h (bE env call L nf thaw live (fL 1) m n k):=
 aQ AS kr
noncomputable def tB:SC:=aY Tryz.f136
noncomputable def lR:Nat->Code:=lpOf Tryz.f136
theorem H8:aP (aS Tryz.f136)=true:=kr
theorem xP:aA env L (n+1) 136 args h=aK env (aA env L n) L h.length [] Bz52 lR tB (args++List.replicate (Tryz.f136.ntmps-args.length) (.d .undef)) h (kFin env.P h.length false [.tmp 2]):=
 aV (mode:=1) kr Tryz.func136 kr kr H8 kr kr
noncomputable def kR:SC:=bD Tryz.f136 0
theorem kO:aM env call L nf thaw live (lR 0) m (n+1) s h k=aK env call L nf thaw live lR kR s h (bE env call L nf thaw live (lR 0) m n k):=
 aQ H8 kr
noncomputable def UX:SC:=aY Tryz.f147
noncomputable def aJb:Nat->Code:=lpOf Tryz.f147
theorem aJS:aP (aS Tryz.f147)=true:=kr
theorem aB8:aA env L (n+1) 147 args h=aK env (aA env L n) L h.length [] ([]) aJb UX (args++List.replicate (Tryz.f147.ntmps-args.length) (.d .undef)) h (kFin env.P h.length false [.tmp 6]):=
 aV (mode:=1) kr Tryz.func147 kr kr aJS kr kr
noncomputable def aEv:SC:=aY Tryz.f148
noncomputable def aKt:Nat->Code:=lpOf Tryz.f148
theorem aJj:aP (aS Tryz.f148)=true:=kr
theorem aJ0:aA env L (n+1) 148 args h=aK env (aA env L n) L h.length [] ([]) aKt aEv (args++List.replicate (Tryz.f148.ntmps-args.length) (.d .undef)) h (kFin env.P h.length false [.tmp 4]):=
 aV (mode:=1) kr Tryz.func148 kr kr aJj kr kr
noncomputable def nX:SC:=aY Tryz.f149
noncomputable def dC:Nat->Code:=lpOf Tryz.f149
theorem mT:aP (aS Tryz.f149)=true:=kr
theorem y8:aA env L (n+1) 149 args h=aK env (aA env L n) L h.length [] Bz38 dC nX (args++List.replicate (Tryz.f149.ntmps-args.length) (.d .undef)) h (kFin env.P h.length false []):=
 aV (mode:=0) kr Tryz.func149 kr kr mT kr kr
noncomputable def eU:SC:=bD Tryz.f149 0
theorem f0:aM env call L nf thaw live (dC 0) m (n+1) s h k=aK env call L nf thaw live dC eU s h (bE env call L nf thaw live (dC 0) m n k):=
 aQ mT kr
noncomputable def S4:SC:=aY Tryz.f150
noncomputable def dW:Nat->Code:=lpOf Tryz.f150
theorem vD:aP (aS Tryz.f150)=true:=kr
theorem aEl:aA env L (n+1) 150 args h=aK env (aA env L n) L h.length [] Bz6 dW S4 (args++List.replicate (Tryz.f150.ntmps-args.length) (.d .undef)) h (kFin env.P h.length false [.tmp 8]):=
 aV (mode:=2) kr Tryz.func150 kr kr vD kr kr
noncomputable def AQ:SC:=bD Tryz.f150 0
theorem CH:aM env call L nf thaw live (dW 0) m (n+1) s h k=aK env call L nf thaw live dW AQ s h (bE env call L nf thaw live (dW 0) m n k):=
 aQ vD kr
noncomputable def AE:SC:=bD Tryz.f150 1
theorem EF:aM env call L nf thaw live (dW 1) m (n+1) s h k=aK env call L nf thaw live dW AE s h (bE env call L nf thaw live (dW 1) m n k):=
 aQ vD kr
noncomputable def AL:SC:=bD Tryz.f150 2
theorem C6:aM env call L nf thaw live (dW 2) m (n+1) s h k=aK env call L nf thaw live dW AL s h (bE env call L nf thaw live (dW 2) m n k):=
 aQ vD kr
noncomputable def aDv:SC:=aY Tryz.f151
noncomputable def aIO:Nat->Code:=lpOf Tryz.f151
theorem aJs:aP (aS Tryz.f151)=true:=kr
theorem aKn:aA env L (n+1) 151 args h=aK env (aA env L n) L h.length [] ([]) aIO aDv (args++List.replicate (Tryz.f151.ntmps-args.length) (.d .undef)) h (kFin env.P h.length false [.tmp 6]):=
 aV (mode:=1) kr Tryz.func151 kr kr aJs kr kr
noncomputable def K0:SC:=aY Tryz.f152
noncomputable def iM:Nat->Code:=lpOf Tryz.f152
theorem HF:aP (aS Tryz.f152)=true:=kr
theorem SZ:aA env L (n+1) 152 args h=aK env (aA env L n) L h.length [] Bz16 iM K0 (args++List.replicate (Tryz.f152.ntmps-args.length) (.d .undef)) h (kFin env.P h.length false [.tmp 6]):=
 aV (mode:=1) kr Tryz.func152 kr kr HF kr kr
noncomputable def uP:SC:=bD Tryz.f152 0
theorem wH:aM env call L nf thaw live (iM 0) m (n+1) s h k=aK env call L nf thaw live iM uP s h (bE env call L nf thaw live (iM 0) m n k):=
 aQ HF kr
noncomputable def wA:SC:=bD Tryz.f152 1
theorem vC:aM env call L nf thaw live (iM 1) m (n+1) s h k=aK env call L nf thaw live iM wA s h (bE env call L nf thaw live (iM 1) m n k):=
 aQ HF kr
noncomputable def TN:SC:=aY Tryz.f156
noncomputable def pZ:Nat->Code:=lpOf Tryz.f156
theorem PR:aP (aS Tryz.f156)=true:=kr
theorem aDF:aA env L (n+1) 156 args h=aK env (aA env L n) L h.length [] Bz47 pZ TN (args++List.replicate (Tryz.f156.ntmps-args.length) (.d .undef)) h (kFin env.P h.length false [.tmp 4]):=
 aV (mode:=1) kr Tryz.func156 kr kr PR kr kr
noncomputable def tD:SC:=bD Tryz.f156 0
theorem tU:aM env call L nf thaw live (pZ 0) m (n+1) s h k=aK env call L nf thaw live pZ tD s h (bE env call L nf thaw live (pZ 0) m n k):=
 aQ PR kr
noncomputable def L8:SC:=aY Tryz.f157
noncomputable def aA0:Nat->Code:=lpOf Tryz.f157
theorem aAS:aP (aS Tryz.f157)=true:=kr
theorem aAW:aA env L (n+1) 157 args h=aK env (aA env L n) L h.length [] (Z2 (U2 (Z4 (U4 (Z32 (Z32 (Z2 (Z1 ([]))))))))) aA0 L8 (args++List.replicate (Tryz.f157.ntmps-args.length) (.d .undef)) h (kFin env.P h.length false [.tmp 8]):=
 aV (mode:=2) kr Tryz.func157 kr kr aAS kr kr
end
end Ev
end Go.Proofs.YthlkcebdfbjdoaaGreat
