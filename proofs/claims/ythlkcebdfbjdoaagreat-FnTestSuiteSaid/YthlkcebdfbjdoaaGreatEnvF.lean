/-
  Each function's code as an equation. Written by a program.
-/
import Derived.Test.YthlkcebdfbjdoaaGreatEnv
set_option maxRecDepth 100000
namespace Go.Proofs.YthlkcebdfbjdoaaGreat
namespace Ev
section
variable{R:Type}{call:aZ}{L nf n:Nat}{thaw:List Nat}{live m:List Bool}{s args:List A}{h:H}{k:KE R}
noncomputable def vA:SC:=aY Tryz.f4
noncomputable def cE:Nat->Code:=lpOf Tryz.f4
theorem nR:aQ (aS Tryz.f4)=true:=kr
theorem AV:aA env L (n+1) 4 args h=aK env (aA env L n) L h.length [] Bz3 cE vA (args++List.replicate (Tryz.f4.ntmps-args.length) (.d .undef)) h (kFin env.P h.length false [.tmp 2]):=
 aT (mode:=1) kr Tryz.func4 kr kr nR kr kr
noncomputable def yK:SC:=bD Tryz.f4 0
theorem DP:aM env call L nf thaw live (cE 0) m (n+1) s h k=aK env call L nf thaw live cE yK s h (bC env call L nf thaw live (cE 0) m n k):=
 aP nR kr
noncomputable def yQ:SC:=bD Tryz.f4 1
theorem B2:aM env call L nf thaw live (cE 1) m (n+1) s h k=aK env call L nf thaw live cE yQ s h (bC env call L nf thaw live (cE 1) m n k):=
 aP nR kr
noncomputable def yP:SC:=bD Tryz.f4 2
theorem CN:aM env call L nf thaw live (cE 2) m (n+1) s h k=aK env call L nf thaw live cE yP s h (bC env call L nf thaw live (cE 2) m n k):=
 aP nR kr
noncomputable def qC:SC:=bD Tryz.f4 3
theorem rM:aM env call L nf thaw live (cE 3) m (n+1) s h k=aK env call L nf thaw live cE qC s h (bC env call L nf thaw live (cE 3) m n k):=
 aP nR kr
noncomputable def EP:SC:=aY Tryz.f8
noncomputable def VA:Nat->Code:=lpOf Tryz.f8
theorem V4:aQ (aS Tryz.f8)=true:=kr
theorem U9:aA env L (n+1) 8 args h=aK env (aA env L n) L h.length [] ([]) VA EP (args++List.replicate (Tryz.f8.ntmps-args.length) (.d .undef)) h (kFin env.P h.length false Tryz.f8.results.toList):=
 aT (mode:=2) kr Tryz.func8 kr kr V4 kr kr
noncomputable def lX:SC:=aY Tryz.f9
noncomputable def dD:Nat->Code:=lpOf Tryz.f9
theorem sQ:aQ (aS Tryz.f9)=true:=kr
theorem nV:aA env L (n+1) 9 args h=aK env (aA env L n) L h.length [] Bz1 dD lX (args++List.replicate (Tryz.f9.ntmps-args.length) (.d .undef)) h (kFin env.P h.length true [.tmp 4,.tmp 5]):=
 aT (mode:=3) kr Tryz.func9 kr kr sQ kr kr
noncomputable def qI:SC:=bD Tryz.f9 0
theorem rX:aM env call L nf thaw live (dD 0) m (n+1) s h k=aK env call L nf thaw live dD qI s h (bC env call L nf thaw live (dD 0) m n k):=
 aP sQ kr
noncomputable def qU:SC:=bD Tryz.f9 1
theorem rP:aM env call L nf thaw live (dD 1) m (n+1) s h k=aK env call L nf thaw live dD qU s h (bC env call L nf thaw live (dD 1) m n k):=
 aP sQ kr
noncomputable def xV:SC:=bD Tryz.f9 2
theorem CM:aM env call L nf thaw live (dD 2) m (n+1) s h k=aK env call L nf thaw live dD xV s h (bC env call L nf thaw live (dD 2) m n k):=
 aP sQ kr
noncomputable def lV:SC:=aY Tryz.f10
noncomputable def dE:Nat->Code:=lpOf Tryz.f10
theorem s9:aQ (aS Tryz.f10)=true:=kr
theorem n4:aA env L (n+1) 10 args h=aK env (aA env L n) L h.length [] Bz11 dE lV (args++List.replicate (Tryz.f10.ntmps-args.length) (.d .undef)) h (kFin env.P h.length false [.tmp 4,.tmp 5]):=
 aT (mode:=2) kr Tryz.func10 kr kr s9 kr kr
noncomputable def qQ:SC:=bD Tryz.f10 0
theorem rL:aM env call L nf thaw live (dE 0) m (n+1) s h k=aK env call L nf thaw live dE qQ s h (bC env call L nf thaw live (dE 0) m n k):=
 aP s9 kr
noncomputable def qP:SC:=bD Tryz.f10 1
theorem rI:aM env call L nf thaw live (dE 1) m (n+1) s h k=aK env call L nf thaw live dE qP s h (bC env call L nf thaw live (dE 1) m n k):=
 aP s9 kr
noncomputable def qG:SC:=bD Tryz.f10 2
theorem r5:aM env call L nf thaw live (dE 2) m (n+1) s h k=aK env call L nf thaw live dE qG s h (bC env call L nf thaw live (dE 2) m n k):=
 aP s9 kr
noncomputable def XN:SC:=aY Tryz.f11
noncomputable def sE:Nat->Code:=lpOf Tryz.f11
theorem UZ:aQ (aS Tryz.f11)=true:=kr
theorem aI9:aA env L (n+1) 11 args h=aK env (aA env L n) L h.length [] Bz56 sE XN (args++List.replicate (Tryz.f11.ntmps-args.length) (.d .undef)) h (kFin env.P h.length false [.tmp 4]):=
 aT (mode:=1) kr Tryz.func11 kr kr UZ kr kr
noncomputable def D5:SC:=bD Tryz.f11 0
theorem IQ:aM env call L nf thaw live (sE 0) m (n+1) s h k=aK env call L nf thaw live sE D5 s h (bC env call L nf thaw live (sE 0) m n k):=
 aP UZ kr
noncomputable def nL:SC:=aY Tryz.f12
noncomputable def mN:Nat->Code:=lpOf Tryz.f12
theorem LL:aQ (aS Tryz.f12)=true:=kr
theorem qD:aA env L (n+1) 12 args h=aK env (aA env L n) L h.length [] Bz41 mN nL (args++List.replicate (Tryz.f12.ntmps-args.length) (.d .undef)) h (kFin env.P h.length false [.tmp 4]):=
 aT (mode:=1) kr Tryz.func12 kr kr LL kr kr
noncomputable def oU:SC:=bD Tryz.f12 0
theorem p9:aM env call L nf thaw live (mN 0) m (n+1) s h k=aK env call L nf thaw live mN oU s h (bC env call L nf thaw live (mN 0) m n k):=
 aP LL kr
noncomputable def sK:SC:=aY Tryz.f13
noncomputable def aB6:Nat->Code:=lpOf Tryz.f13
theorem aCa:aQ (aS Tryz.f13)=true:=kr
theorem xS:aA env L (n+1) 13 args h=aK env (aA env L n) L h.length [] ([]) aB6 sK (args++List.replicate (Tryz.f13.ntmps-args.length) (.d .undef)) h (kFin env.P h.length false [.tmp 4]):=
 aT (mode:=1) kr Tryz.func13 kr kr aCa kr kr
noncomputable def M3:SC:=aY Tryz.f14
noncomputable def mG:Nat->Code:=lpOf Tryz.f14
theorem J7:aQ (aS Tryz.f14)=true:=kr
theorem aBc:aA env L (n+1) 14 args h=aK env (aA env L n) L h.length [0,0,0,2] Bz44 mG M3 (args++List.replicate (Tryz.f14.ntmps-args.length) (.d .undef)) h (kFin env.P h.length true [.tmp 2]):=
 aT (mode:=3) kr Tryz.func14 kr kr J7 kr kr
noncomputable def oW:SC:=bD Tryz.f14 0
theorem pX:aM env call L nf thaw live (mG 0) m (n+1) s h k=aK env call L nf thaw live mG oW s h (bC env call L nf thaw live (mG 0) m n k):=
 aP J7 kr
noncomputable def zZ:SC:=aY Tryz.f15
noncomputable def c7:Nat->Code:=lpOf Tryz.f15
theorem oQ:aQ (aS Tryz.f15)=true:=kr
theorem PB:aA env L (n+1) 15 args h=aK env (aA env L n) L h.length [] Bz16 c7 zZ (args++List.replicate (Tryz.f15.ntmps-args.length) (.d .undef)) h (kFin env.P h.length true [.tmp 2]):=
 aT (mode:=3) kr Tryz.func15 kr kr oQ kr kr
noncomputable def nM:SC:=bD Tryz.f15 0
theorem sI:aM env call L nf thaw live (c7 0) m (n+1) s h k=aK env call L nf thaw live c7 nM s h (bC env call L nf thaw live (c7 0) m n k):=
 aP oQ kr
noncomputable def gS:SC:=bD Tryz.f15 1
theorem hZ:aM env call L nf thaw live (c7 1) m (n+1) s h k=aK env call L nf thaw live c7 gS s h (bC env call L nf thaw live (c7 1) m n k):=
 aP oQ kr
noncomputable def aK7:SC:=aY Tryz.f16
noncomputable def aQo:Nat->Code:=lpOf Tryz.f16
theorem aQW:aQ (aS Tryz.f16)=true:=kr
theorem aRr:aA env L (n+1) 16 args h=aK env (aA env L n) L h.length [] ([]) aQo aK7 (args++List.replicate (Tryz.f16.ntmps-args.length) (.d .undef)) h (kFin env.P h.length false [.tmp 4]):=
 aT (mode:=1) kr Tryz.func16 kr kr aQW kr kr
noncomputable def LZ:SC:=aY Tryz.f17
noncomputable def rJ:Nat->Code:=lpOf Tryz.f17
theorem VG:aQ (aS Tryz.f17)=true:=kr
theorem VF:aA env L (n+1) 17 args h=aK env (aA env L n) L h.length [] Bz14 rJ LZ (args++List.replicate (Tryz.f17.ntmps-args.length) (.d .undef)) h (kFin env.P h.length false [.tmp 4]):=
 aT (mode:=1) kr Tryz.func17 kr kr VG kr kr
noncomputable def u7:SC:=bD Tryz.f17 0
theorem vU:aM env call L nf thaw live (rJ 0) m (n+1) s h k=aK env call L nf thaw live rJ u7 s h (bC env call L nf thaw live (rJ 0) m n k):=
 aP VG kr
noncomputable def aCN:SC:=aY Tryz.f18
noncomputable def aJF:Nat->Code:=lpOf Tryz.f18
theorem aJI:aQ (aS Tryz.f18)=true:=kr
theorem aJ2:aA env L (n+1) 18 args h=aK env (aA env L n) L h.length [] ([]) aJF aCN (args++List.replicate (Tryz.f18.ntmps-args.length) (.d .undef)) h (kFin env.P h.length false [.tmp 2]):=
 aT (mode:=1) kr Tryz.func18 kr kr aJI kr kr
noncomputable def L9:SC:=aY Tryz.f27
noncomputable def aHD:Nat->Code:=lpOf Tryz.f27
theorem aGV:aQ (aS Tryz.f27)=true:=kr
theorem VH:aA env L (n+1) 27 args h=aK env (aA env L n) L h.length [] ([]) aHD L9 (args++List.replicate (Tryz.f27.ntmps-args.length) (.d .undef)) h (kFin env.P h.length true [.tmp 2]):=
 aT (mode:=2) kr Tryz.func27 kr kr aGV kr kr
noncomputable def jW:SC:=aY Tryz.f28
noncomputable def aHI:Nat->Code:=lpOf Tryz.f28
theorem aI3:aQ (aS Tryz.f28)=true:=kr
theorem j3:aA env L (n+1) 28 args h=aK env (aA env L n) L h.length [] ([]) aHI jW (args++List.replicate (Tryz.f28.ntmps-args.length) (.d .undef)) h (kFin env.P h.length false Tryz.f28.results.toList):=
 aT (mode:=0) kr Tryz.func28 kr kr aI3 kr kr
noncomputable def R5:SC:=aY Tryz.f29
noncomputable def aGC:Nat->Code:=lpOf Tryz.f29
theorem aGB:aQ (aS Tryz.f29)=true:=kr
theorem aGz:aA env L (n+1) 29 args h=aK env (aA env L n) L h.length [] ([]) aGC R5 (args++List.replicate (Tryz.f29.ntmps-args.length) (.d .undef)) h (kFin env.P h.length false [.tmp 2]):=
 aT (mode:=0) kr Tryz.func29 kr kr aGB kr kr
noncomputable def fE:SC:=aY Tryz.f30
noncomputable def dJ:Nat->Code:=lpOf Tryz.f30
theorem qB:aQ (aS Tryz.f30)=true:=kr
theorem fX:aA env L (n+1) 30 args h=aK env (aA env L n) L h.length [] Bz8 dJ fE (args++List.replicate (Tryz.f30.ntmps-args.length) (.d .undef)) h (kFin env.P h.length false [.tmp 2]):=
 aT (mode:=1) kr Tryz.func30 kr kr qB kr kr
noncomputable def iA:SC:=bD Tryz.f30 0
theorem jI:aM env call L nf thaw live (dJ 0) m (n+1) s h k=aK env call L nf thaw live dJ iA s h (bC env call L nf thaw live (dJ 0) m n k):=
 aP qB kr
noncomputable def iQ:SC:=bD Tryz.f30 1
theorem jJ:aM env call L nf thaw live (dJ 1) m (n+1) s h k=aK env call L nf thaw live dJ iQ s h (bC env call L nf thaw live (dJ 1) m n k):=
 aP qB kr
noncomputable def RB:SC:=aY Tryz.f31
noncomputable def dC:Nat->Code:=lpOf Tryz.f31
theorem sU:aQ (aS Tryz.f31)=true:=kr
theorem aDy:aA env L (n+1) 31 args h=aK env (aA env L n) L h.length (W8 (W4 [2002])) Bz5 dC RB (args++List.replicate (Tryz.f31.ntmps-args.length) (.d .undef)) h (kFin env.P h.length false [.tmp 4]):=
 aT (mode:=2) kr Tryz.func31 kr kr sU kr kr
noncomputable def xR:SC:=bD Tryz.f31 0
theorem CZ:aM env call L nf thaw live (dC 0) m (n+1) s h k=aK env call L nf thaw live dC xR s h (bC env call L nf thaw live (dC 0) m n k):=
 aP sU kr
noncomputable def xI:SC:=bD Tryz.f31 1
theorem C4:aM env call L nf thaw live (dC 1) m (n+1) s h k=aK env call L nf thaw live dC xI s h (bC env call L nf thaw live (dC 1) m n k):=
 aP sU kr
noncomputable def yF:SC:=bD Tryz.f31 2
theorem C8:aM env call L nf thaw live (dC 2) m (n+1) s h k=aK env call L nf thaw live dC yF s h (bC env call L nf thaw live (dC 2) m n k):=
 aP sU kr
theorem zL{L n:Nat}{args:List A}{h:H}:aA env L (n+1) 32 args h=A3 66 34 args h:=by
 have:env.prim 32=some (A3 66 34):=kr;simp only[aA,this]
noncomputable def jC:SC:=aY Tryz.f33
noncomputable def pA:Nat->Code:=lpOf Tryz.f33
theorem oN:aQ (aS Tryz.f33)=true:=kr
theorem oZ:aA env L (n+1) 33 args h=aK env (aA env L n) L h.length [] ([]) pA jC (args++List.replicate (Tryz.f33.ntmps-args.length) (.d .undef)) h (kFin env.P h.length true [.tmp 2]):=
 aT (mode:=0) kr Tryz.func33 kr kr oN kr kr
noncomputable def yV:SC:=aY Tryz.f34
noncomputable def P7:Nat->Code:=lpOf Tryz.f34
theorem QR:aQ (aS Tryz.f34)=true:=kr
theorem aGh:aA env L (n+1) 34 args h=aK env (aA env L n) L h.length [] ([]) P7 yV (args++List.replicate (Tryz.f34.ntmps-args.length) (.d .undef)) h (kFin env.P h.length false [.tmp 4]):=
 aT (mode:=1) kr Tryz.func34 kr kr QR kr kr
noncomputable def fD:SC:=aY Tryz.f35
noncomputable def jL:Nat->Code:=lpOf Tryz.f35
theorem zN:aQ (aS Tryz.f35)=true:=kr
theorem f5:aA env L (n+1) 35 args h=aK env (aA env L n) L h.length [] Bz51 jL fD (args++List.replicate (Tryz.f35.ntmps-args.length) (.d .undef)) h (kFin env.P h.length false [.tmp 2]):=
 aT (mode:=1) kr Tryz.func35 kr kr zN kr kr
noncomputable def kR:SC:=bD Tryz.f35 0
theorem lU:aM env call L nf thaw live (jL 0) m (n+1) s h k=aK env call L nf thaw live jL kR s h (bC env call L nf thaw live (jL 0) m n k):=
 aP zN kr
noncomputable def A4:SC:=aY Tryz.f36
noncomputable def mF:Nat->Code:=lpOf Tryz.f36
theorem JH:aQ (aS Tryz.f36)=true:=kr
theorem JZ:aA env L (n+1) 36 args h=aK env (aA env L n) L h.length [] Bz57 mF A4 (args++List.replicate (Tryz.f36.ntmps-args.length) (.d .undef)) h (kFin env.P h.length false [.tmp 2]):=
 aT (mode:=2) kr Tryz.func36 kr kr JH kr kr
noncomputable def vV:SC:=bD Tryz.f36 0
theorem AA:aM env call L nf thaw live (mF 0) m (n+1) s h k=aK env call L nf thaw live mF vV s h (bC env call L nf thaw live (mF 0) m n k):=
 aP JH kr
noncomputable def pY:SC:=aY Tryz.f37
noncomputable def cZ:Nat->Code:=lpOf Tryz.f37
theorem oO:aQ (aS Tryz.f37)=true:=kr
theorem yE:aA env L (n+1) 37 args h=aK env (aA env L n) L h.length [] Bz33 cZ pY (args++List.replicate (Tryz.f37.ntmps-args.length) (.d .undef)) h (kFin env.P h.length false [.tmp 2]):=
 aT (mode:=2) kr Tryz.func37 kr kr oO kr kr
noncomputable def nG:SC:=bD Tryz.f37 0
theorem sC:aM env call L nf thaw live (cZ 0) m (n+1) s h k=aK env call L nf thaw live cZ nG s h (bC env call L nf thaw live (cZ 0) m n k):=
 aP oO kr
noncomputable def gO:SC:=bD Tryz.f37 1
theorem iL:aM env call L nf thaw live (cZ 1) m (n+1) s h k=aK env call L nf thaw live cZ gO s h (bC env call L nf thaw live (cZ 1) m n k):=
 aP oO kr
noncomputable def RA:SC:=aY Tryz.f38
noncomputable def eQ:Nat->Code:=lpOf Tryz.f38
theorem AC:aQ (aS Tryz.f38)=true:=kr
theorem aD0:aA env L (n+1) 38 args h=aK env (aA env L n) L h.length [] Bz12 eQ RA (args++List.replicate (Tryz.f38.ntmps-args.length) (.d .undef)) h (kFin env.P h.length false [.tmp 4]):=
 aT (mode:=2) kr Tryz.func38 kr kr AC kr kr
noncomputable def qL:SC:=bD Tryz.f38 0
theorem sG:aM env call L nf thaw live (eQ 0) m (n+1) s h k=aK env call L nf thaw live eQ qL s h (bC env call L nf thaw live (eQ 0) m n k):=
 aP AC kr
noncomputable def yB:SC:=bD Tryz.f38 1
theorem B4:aM env call L nf thaw live (eQ 1) m (n+1) s h k=aK env call L nf thaw live eQ yB s h (bC env call L nf thaw live (eQ 1) m n k):=
 aP AC kr
noncomputable def FO:SC:=aY Tryz.f39
noncomputable def uL:Nat->Code:=lpOf Tryz.f39
theorem YF:aQ (aS Tryz.f39)=true:=kr
theorem L4:aA env L (n+1) 39 args h=aK env (aA env L n) L h.length [] Bz52 uL FO (args++List.replicate (Tryz.f39.ntmps-args.length) (.d .undef)) h (kFin env.P h.length false [.tmp 4]):=
 aT (mode:=0) kr Tryz.func39 kr kr YF kr kr
noncomputable def HL:SC:=bD Tryz.f39 0
theorem KW:aM env call L nf thaw live (uL 0) m (n+1) s h k=aK env call L nf thaw live uL HL s h (bC env call L nf thaw live (uL 0) m n k):=
 aP YF kr
noncomputable def NV:SC:=aY Tryz.f40
noncomputable def aCy:Nat->Code:=lpOf Tryz.f40
theorem aB8:aQ (aS Tryz.f40)=true:=kr
theorem aCO:aA env L (n+1) 40 args h=aK env (aA env L n) L h.length [] ([]) aCy NV (args++List.replicate (Tryz.f40.ntmps-args.length) (.d .undef)) h (kFin env.P h.length false [.tmp 2]):=
 aT (mode:=1) kr Tryz.func40 kr kr aB8 kr kr
noncomputable def aKz:SC:=aY Tryz.f41
noncomputable def aRD:Nat->Code:=lpOf Tryz.f41
theorem aQw:aQ (aS Tryz.f41)=true:=kr
theorem aQZ:aA env L (n+1) 41 args h=aK env (aA env L n) L h.length [] ([]) aRD aKz (args++List.replicate (Tryz.f41.ntmps-args.length) (.d .undef)) h (kFin env.P h.length false [.tmp 4]):=
 aT (mode:=1) kr Tryz.func41 kr kr aQw kr kr
noncomputable def S7:SC:=aY Tryz.f42
noncomputable def aGp:Nat->Code:=lpOf Tryz.f42
theorem aGo:aQ (aS Tryz.f42)=true:=kr
theorem aGu:aA env L (n+1) 42 args h=aK env (aA env L n) L h.length [] ([]) aGp S7 (args++List.replicate (Tryz.f42.ntmps-args.length) (.d .undef)) h (kFin env.P h.length false [.tmp 4]):=
 aT (mode:=1) kr Tryz.func42 kr kr aGo kr kr
noncomputable def Q3:SC:=aY Tryz.f43
noncomputable def aDY:Nat->Code:=lpOf Tryz.f43
theorem aD5:aQ (aS Tryz.f43)=true:=kr
theorem aDE:aA env L (n+1) 43 args h=aK env (aA env L n) L h.length [] ([]) aDY Q3 (args++List.replicate (Tryz.f43.ntmps-args.length) (.d .undef)) h (kFin env.P h.length false [.tmp 2]):=
 aT (mode:=1) kr Tryz.func43 kr kr aD5 kr kr
noncomputable def AU:SC:=aY Tryz.f44
noncomputable def aCD:Nat->Code:=lpOf Tryz.f44
theorem aCS:aQ (aS Tryz.f44)=true:=kr
theorem KX:aA env L (n+1) 44 args h=aK env (aA env L n) L h.length [] ([]) aCD AU (args++List.replicate (Tryz.f44.ntmps-args.length) (.d .undef)) h (kFin env.P h.length false [.tmp 4,.tmp 5]):=
 aT (mode:=1) kr Tryz.func44 kr kr aCS kr kr
theorem tZ{L n:Nat}{args:List A}{h:H}:aA env L (n+1) 45 args h=GM 34 args h:=by
 have:env.prim 45=some (GM 34):=kr;simp only[aA,this]
noncomputable def iP:SC:=aY Tryz.f46
noncomputable def aAe:Nat->Code:=lpOf Tryz.f46
theorem ZT:aQ (aS Tryz.f46)=true:=kr
theorem jQ:aA env L (n+1) 46 args h=aK env (aA env L n) L h.length [] ([]) aAe iP (args++List.replicate (Tryz.f46.ntmps-args.length) (.d .undef)) h (kFin env.P h.length false [.tmp 6,.tmp 7]):=
 aT (mode:=1) kr Tryz.func46 kr kr ZT kr kr
noncomputable def lS:SC:=aY Tryz.f47
noncomputable def v8:Nat->Code:=lpOf Tryz.f47
theorem vO:aQ (aS Tryz.f47)=true:=kr
theorem vI:aA env L (n+1) 47 args h=aK env (aA env L n) L h.length [] ([]) v8 lS (args++List.replicate (Tryz.f47.ntmps-args.length) (.d .undef)) h (kFin env.P h.length false [.tmp 4]):=
 aT (mode:=1) kr Tryz.func47 kr kr vO kr kr
noncomputable def gA:SC:=aY Tryz.f48
noncomputable def aGA:Nat->Code:=lpOf Tryz.f48
theorem aGn:aQ (aS Tryz.f48)=true:=kr
theorem gF:aA env L (n+1) 48 args h=aK env (aA env L n) L h.length (W32 (W32 (W16 (W8 (W4 (W1 [1002])))))) ([]) aGA gA (args++List.replicate (Tryz.f48.ntmps-args.length) (.d .undef)) h (kFin env.P h.length false Tryz.f48.results.toList):=
 aT (mode:=0) kr Tryz.func48 kr kr aGn kr kr
noncomputable def nC:SC:=aY Tryz.f49
noncomputable def aCC:Nat->Code:=lpOf Tryz.f49
theorem aCz:aQ (aS Tryz.f49)=true:=kr
theorem qN:aA env L (n+1) 49 args h=aK env (aA env L n) L h.length [] ([]) aCC nC (args++List.replicate (Tryz.f49.ntmps-args.length) (.d .undef)) h (kFin env.P h.length false [.tmp 4]):=
 aT (mode:=0) kr Tryz.func49 kr kr aCz kr kr
noncomputable def OZ:SC:=aY Tryz.f50
noncomputable def aJY:Nat->Code:=lpOf Tryz.f50
theorem aJc:aQ (aS Tryz.f50)=true:=kr
theorem YV:aA env L (n+1) 50 args h=aK env (aA env L n) L h.length [] ([]) aJY OZ (args++List.replicate (Tryz.f50.ntmps-args.length) (.d .undef)) h (kFin env.P h.length false Tryz.f50.results.toList):=
 aT (mode:=0) kr Tryz.func50 kr kr aJc kr kr
noncomputable def JR:SC:=aY Tryz.f56
noncomputable def aAH:Nat->Code:=lpOf Tryz.f56
theorem aAw:aQ (aS Tryz.f56)=true:=kr
theorem aAu:aA env L (n+1) 56 args h=aK env (aA env L n) L h.length [] ([]) aAH JR (args++List.replicate (Tryz.f56.ntmps-args.length) (.d .undef)) h (kFin env.P h.length false [.tmp 10,.tmp 11]):=
 aT (mode:=1) kr Tryz.func56 kr kr aAw kr kr
noncomputable def dO:SC:=aY Tryz.f59
noncomputable def nF:Nat->Code:=lpOf Tryz.f59
theorem UV:aQ (aS Tryz.f59)=true:=kr
theorem dI:aA env L (n+1) 59 args h=aK env (aA env L n) L h.length (W32 (W32 (W16 (W2 (W1 [1002,0,0,0,0,0,0,0,0,0,0,0,0,0,0,0,0,0,0,0,0,0,1002]))))) Bz20 nF dO (args++List.replicate (Tryz.f59.ntmps-args.length) (.d .undef)) h (kFin env.P h.length false Tryz.f59.results.toList):=
 aT (mode:=0) kr Tryz.func59 kr kr UV kr kr
noncomputable def u6:SC:=bD Tryz.f59 0
theorem vW:aM env call L nf thaw live (nF 0) m (n+1) s h k=aK env call L nf thaw live nF u6 s h (bC env call L nf thaw live (nF 0) m n k):=
 aP UV kr
noncomputable def aFa:SC:=aY Tryz.f60
noncomputable def sY:Nat->Code:=lpOf Tryz.f60
theorem aB7:aQ (aS Tryz.f60)=true:=kr
theorem aMd:aA env L (n+1) 60 args h=aK env (aA env L n) L h.length [] Bz23 sY aFa (args++List.replicate (Tryz.f60.ntmps-args.length) (.d .undef)) h (kFin env.P h.length false Tryz.f60.results.toList):=
 aT (mode:=0) kr Tryz.func60 kr kr aB7 kr kr
noncomputable def BK:SC:=bD Tryz.f60 0
theorem AO:aM env call L nf thaw live (sY 0) m (n+1) s h k=aK env call L nf thaw live sY BK s h (bC env call L nf thaw live (sY 0) m n k):=
 aP aB7 kr
noncomputable def SW:SC:=aY Tryz.f61
noncomputable def eO:Nat->Code:=lpOf Tryz.f61
theorem DV:aQ (aS Tryz.f61)=true:=kr
theorem aGw:aA env L (n+1) 61 args h=aK env (aA env L n) L h.length (W32 (W4 (W1 [1002]))) Bz6 eO SW (args++List.replicate (Tryz.f61.ntmps-args.length) (.d .undef)) h (kFin env.P h.length true Tryz.f61.results.toList):=
 aT (mode:=0) kr Tryz.func61 kr kr DV kr kr
noncomputable def sT:SC:=bD Tryz.f61 0
theorem t8:aM env call L nf thaw live (eO 0) m (n+1) s h k=aK env call L nf thaw live eO sT s h (bC env call L nf thaw live (eO 0) m n k):=
 aP DV kr
noncomputable def nO:SC:=bD Tryz.f61 1
theorem nA:aM env call L nf thaw live (eO 1) m (n+1) s h k=aK env call L nf thaw live eO nO s h (bC env call L nf thaw live (eO 1) m n k):=
 aP DV kr
noncomputable def QC:SC:=aY Tryz.f62
noncomputable def aDH:Nat->Code:=lpOf Tryz.f62
theorem aDG:aQ (aS Tryz.f62)=true:=kr
theorem aDV:aA env L (n+1) 62 args h=aK env (aA env L n) L h.length [] ([]) aDH QC (args++List.replicate (Tryz.f62.ntmps-args.length) (.d .undef)) h (kFin env.P h.length false [.tmp 4]):=
 aT (mode:=0) kr Tryz.func62 kr kr aDG kr kr
noncomputable def P5:SC:=aY Tryz.f63
noncomputable def lE:Nat->Code:=lpOf Tryz.f63
theorem NI:aQ (aS Tryz.f63)=true:=kr
theorem aDN:aA env L (n+1) 63 args h=aK env (aA env L n) L h.length [0,0,0,2] Bz26 lE P5 (args++List.replicate (Tryz.f63.ntmps-args.length) (.d .undef)) h (kFin env.P h.length false [.tmp 2]):=
 aT (mode:=2) kr Tryz.func63 kr kr NI kr kr
noncomputable def qW:SC:=bD Tryz.f63 0
theorem rT:aM env call L nf thaw live (lE 0) m (n+1) s h k=aK env call L nf thaw live lE qW s h (bC env call L nf thaw live (lE 0) m n k):=
 aP NI kr
noncomputable def ME:SC:=aY Tryz.f64
noncomputable def aDf:Nat->Code:=lpOf Tryz.f64
theorem aCk:aQ (aS Tryz.f64)=true:=kr
theorem aA6:aA env L (n+1) 64 args h=aK env (aA env L n) L h.length [] ([]) aDf ME (args++List.replicate (Tryz.f64.ntmps-args.length) (.d .undef)) h (kFin env.P h.length false [.tmp 2]):=
 aT (mode:=1) kr Tryz.func64 kr kr aCk kr kr
noncomputable def nZ:SC:=aY Tryz.f67
noncomputable def fG:Nat->Code:=lpOf Tryz.f67
theorem u9:aQ (aS Tryz.f67)=true:=kr
theorem QW:aA env L (n+1) 67 args h=aK env (aA env L n) L h.length [] Bz29 fG nZ (args++List.replicate (Tryz.f67.ntmps-args.length) (.d .undef)) h (kFin env.P h.length false [.tmp 2]):=
 aT (mode:=1) kr Tryz.func67 kr kr u9 kr kr
noncomputable def gN:SC:=bD Tryz.f67 0
theorem tX:aM env call L nf thaw live (fG 0) m (n+1) s h k=aK env call L nf thaw live fG gN s h (bC env call L nf thaw live (fG 0) m n k):=
 aP u9 kr
noncomputable def eR:SC:=aY Tryz.f68
noncomputable def CO:Nat->Code:=lpOf Tryz.f68
theorem B1:aQ (aS Tryz.f68)=true:=kr
theorem rV:aA env L (n+1) 68 args h=aK env (aA env L n) L h.length [] ([]) CO eR (args++List.replicate (Tryz.f68.ntmps-args.length) (.d .undef)) h (kFin env.P h.length false [.tmp 4]):=
 aT (mode:=1) kr Tryz.func68 kr kr B1 kr kr
noncomputable def dT:SC:=aY Tryz.f69
noncomputable def wC:Nat->Code:=lpOf Tryz.f69
theorem wX:aQ (aS Tryz.f69)=true:=kr
theorem nN:aA env L (n+1) 69 args h=aK env (aA env L n) L h.length [] ([]) wC dT (args++List.replicate (Tryz.f69.ntmps-args.length) (.d .undef)) h (kFin env.P h.length false [.tmp 4]):=
 aT (mode:=1) kr Tryz.func69 kr kr wX kr kr
noncomputable def M6:SC:=aY Tryz.f70
noncomputable def aBS:Nat->Code:=lpOf Tryz.f70
theorem aBi:aQ (aS Tryz.f70)=true:=kr
theorem aBD:aA env L (n+1) 70 args h=aK env (aA env L n) L h.length [] ([]) aBS M6 (args++List.replicate (Tryz.f70.ntmps-args.length) (.d .undef)) h (kFin env.P h.length false [.tmp 2]):=
 aT (mode:=1) kr Tryz.func70 kr kr aBi kr kr
noncomputable def I9:SC:=aY Tryz.f71
noncomputable def x3:Nat->Code:=lpOf Tryz.f71
theorem aBM:aQ (aS Tryz.f71)=true:=kr
theorem OG:aA env L (n+1) 71 args h=aK env (aA env L n) L h.length [] Bz30 x3 I9 (args++List.replicate (Tryz.f71.ntmps-args.length) (.d .undef)) h (kFin env.P h.length false [.tmp 6]):=
 aT (mode:=1) kr Tryz.func71 kr kr aBM kr kr
noncomputable def uU:SC:=bD Tryz.f71 0
theorem tE:aM env call L nf thaw live (x3 0) m (n+1) s h k=aK env call L nf thaw live x3 uU s h (bC env call L nf thaw live (x3 0) m n k):=
 aP aBM kr
noncomputable def QH:SC:=aY Tryz.f72
noncomputable def oA:Nat->Code:=lpOf Tryz.f72
theorem M7:aQ (aS Tryz.f72)=true:=kr
theorem aDD:aA env L (n+1) 72 args h=aK env (aA env L n) L h.length [] Bz47 oA QH (args++List.replicate (Tryz.f72.ntmps-args.length) (.d .undef)) h (kFin env.P h.length false [.tmp 2]):=
 aT (mode:=2) kr Tryz.func72 kr kr M7 kr kr
noncomputable def rA:SC:=bD Tryz.f72 0
theorem rD:aM env call L nf thaw live (oA 0) m (n+1) s h k=aK env call L nf thaw live oA rA s h (bC env call L nf thaw live (oA 0) m n k):=
 aP M7 kr
noncomputable def aBk:SC:=aY Tryz.f73
noncomputable def jS:Nat->Code:=lpOf Tryz.f73
theorem LU:aQ (aS Tryz.f73)=true:=kr
theorem aJ5:aA env L (n+1) 73 args h=aK env (aA env L n) L h.length [] Bz21 jS aBk (args++List.replicate (Tryz.f73.ntmps-args.length) (.d .undef)) h (kFin env.P h.length false Tryz.f73.results.toList):=
 aT (mode:=2) kr Tryz.func73 kr kr LU kr kr
noncomputable def xN:SC:=bD Tryz.f73 0
theorem xT:aM env call L nf thaw live (jS 0) m (n+1) s h k=aK env call L nf thaw live jS xN s h (bC env call L nf thaw live (jS 0) m n k):=
 aP LU kr
noncomputable def HG:SC:=bD Tryz.f73 1
theorem JK:aM env call L nf thaw live (jS 1) m (n+1) s h k=aK env call L nf thaw live jS HG s h (bC env call L nf thaw live (jS 1) m n k):=
 aP LU kr
noncomputable def tJ:SC:=aY Tryz.f74
noncomputable def aA9:Nat->Code:=lpOf Tryz.f74
theorem aCX:aQ (aS Tryz.f74)=true:=kr
theorem yU:aA env L (n+1) 74 args h=aK env (aA env L n) L h.length [] ([]) aA9 tJ (args++List.replicate (Tryz.f74.ntmps-args.length) (.d .undef)) h (kFin env.P h.length false [.tmp 4,.tmp 5]):=
 aT (mode:=1) kr Tryz.func74 kr kr aCX kr kr
noncomputable def mM:SC:=aY Tryz.f75
noncomputable def aAF:Nat->Code:=lpOf Tryz.f75
theorem aAl:aQ (aS Tryz.f75)=true:=kr
theorem oL:aA env L (n+1) 75 args h=aK env (aA env L n) L h.length [] ([]) aAF mM (args++List.replicate (Tryz.f75.ntmps-args.length) (.d .undef)) h (kFin env.P h.length false [.tmp 6,.tmp 7]):=
 aT (mode:=1) kr Tryz.func75 kr kr aAl kr kr
noncomputable def UA:SC:=aY Tryz.f76
noncomputable def x6:Nat->Code:=lpOf Tryz.f76
theorem aBK:aQ (aS Tryz.f76)=true:=kr
theorem aCv:aA env L (n+1) 76 args h=aK env (aA env L n) L h.length [] Bz14 x6 UA (args++List.replicate (Tryz.f76.ntmps-args.length) (.d .undef)) h (kFin env.P h.length false [.tmp 4]):=
 aT (mode:=1) kr Tryz.func76 kr kr aBK kr kr
noncomputable def BM:SC:=bD Tryz.f76 0
theorem AM:aM env call L nf thaw live (x6 0) m (n+1) s h k=aK env call L nf thaw live x6 BM s h (bC env call L nf thaw live (x6 0) m n k):=
 aP aBK kr
noncomputable def aBT:SC:=aY Tryz.f77
noncomputable def aJO:Nat->Code:=lpOf Tryz.f77
theorem aJS:aQ (aS Tryz.f77)=true:=kr
theorem aJe:aA env L (n+1) 77 args h=aK env (aA env L n) L h.length [] ([]) aJO aBT (args++List.replicate (Tryz.f77.ntmps-args.length) (.d .undef)) h (kFin env.P h.length false [.tmp 2]):=
 aT (mode:=1) kr Tryz.func77 kr kr aJS kr kr
noncomputable def VL:SC:=aY Tryz.f78
noncomputable def pL:Nat->Code:=lpOf Tryz.f78
theorem QF:aQ (aS Tryz.f78)=true:=kr
theorem aGa:aA env L (n+1) 78 args h=aK env (aA env L n) L h.length [] Bz53 pL VL (args++List.replicate (Tryz.f78.ntmps-args.length) (.d .undef)) h (kFin env.P h.length false [.tmp 4]):=
 aT (mode:=1) kr Tryz.func78 kr kr QF kr kr
noncomputable def nH:SC:=bD Tryz.f78 0
theorem nB:aM env call L nf thaw live (pL 0) m (n+1) s h k=aK env call L nf thaw live pL nH s h (bC env call L nf thaw live (pL 0) m n k):=
 aP QF kr
noncomputable def QN:SC:=aY Tryz.f79
noncomputable def aD1:Nat->Code:=lpOf Tryz.f79
theorem aDB:aQ (aS Tryz.f79)=true:=kr
theorem aDx:aA env L (n+1) 79 args h=aK env (aA env L n) L h.length [] ([]) aD1 QN (args++List.replicate (Tryz.f79.ntmps-args.length) (.d .undef)) h (kFin env.P h.length false [.tmp 4,.tmp 5]):=
 aT (mode:=1) kr Tryz.func79 kr kr aDB kr kr
noncomputable def tY:SC:=aY Tryz.f80
noncomputable def S1:Nat->Code:=lpOf Tryz.f80
theorem UR:aQ (aS Tryz.f80)=true:=kr
theorem B3:aA env L (n+1) 80 args h=aK env (aA env L n) L h.length [] ([]) S1 tY (args++List.replicate (Tryz.f80.ntmps-args.length) (.d .undef)) h (kFin env.P h.length false [.tmp 3]):=
 aT (mode:=0) kr Tryz.func80 kr kr UR kr kr
noncomputable def B7:SC:=aY Tryz.f83
noncomputable def RO:Nat->Code:=lpOf Tryz.f83
theorem RH:aQ (aS Tryz.f83)=true:=kr
theorem RS:aA env L (n+1) 83 args h=aK env (aA env L n) L h.length [] ([]) RO B7 (args++List.replicate (Tryz.f83.ntmps-args.length) (.d .undef)) h (kFin env.P h.length false [.tmp 4]):=
 aT (mode:=0) kr Tryz.func83 kr kr RH kr kr
noncomputable def jM:SC:=aY Tryz.f84
noncomputable def d5:Nat->Code:=lpOf Tryz.f84
theorem m4:aQ (aS Tryz.f84)=true:=kr
theorem m3:aA env L (n+1) 84 args h=aK env (aA env L n) L h.length [] Bz48 d5 jM (args++List.replicate (Tryz.f84.ntmps-args.length) (.d .undef)) h (kFin env.P h.length false [.tmp 4]):=
 aT (mode:=1) kr Tryz.func84 kr kr m4 kr kr
noncomputable def eY:SC:=bD Tryz.f84 0
theorem gC:aM env call L nf thaw live (d5 0) m (n+1) s h k=aK env call L nf thaw live d5 eY s h (bC env call L nf thaw live (d5 0) m n k):=
 aP m4 kr
noncomputable def ON:SC:=aY Tryz.f85
noncomputable def kT:Nat->Code:=lpOf Tryz.f85
theorem X8:aQ (aS Tryz.f85)=true:=kr
theorem XW:aA env L (n+1) 85 args h=aK env (aA env L n) L h.length (W16 (W8 (W4 [1002]))) Bz13 kT ON (args++List.replicate (Tryz.f85.ntmps-args.length) (.d .undef)) h (kFin env.P h.length true Tryz.f85.results.toList):=
 aT (mode:=2) kr Tryz.func85 kr kr X8 kr kr
noncomputable def rK:SC:=bD Tryz.f85 0
theorem qE:aM env call L nf thaw live (kT 0) m (n+1) s h k=aK env call L nf thaw live kT rK s h (bC env call L nf thaw live (kT 0) m n k):=
 aP X8 kr
noncomputable def TZ:SC:=aY Tryz.f87
noncomputable def aF7:Nat->Code:=lpOf Tryz.f87
theorem aGq:aQ (aS Tryz.f87)=true:=kr
theorem aGs:aA env L (n+1) 87 args h=aK env (aA env L n) L h.length [] ([]) aF7 TZ (args++List.replicate (Tryz.f87.ntmps-args.length) (.d .undef)) h (kFin env.P h.length false [.tmp 4]):=
 aT (mode:=0) kr Tryz.func87 kr kr aGq kr kr
noncomputable def PF:SC:=aY Tryz.f89
noncomputable def aJi:Nat->Code:=lpOf Tryz.f89
theorem aJZ:aQ (aS Tryz.f89)=true:=kr
theorem X7:aA env L (n+1) 89 args h=aK env (aA env L n) L h.length [] ([]) aJi PF (args++List.replicate (Tryz.f89.ntmps-args.length) (.d .undef)) h (kFin env.P h.length false Tryz.f89.results.toList):=
 aT (mode:=0) kr Tryz.func89 kr kr aJZ kr kr
noncomputable def XS:SC:=aY Tryz.f92
noncomputable def eB:Nat->Code:=lpOf Tryz.f92
theorem xF:aQ (aS Tryz.f92)=true:=kr
theorem aIg:aA env L (n+1) 92 args h=aK env (aA env L n) L h.length [] Bz4 eB XS (args++List.replicate (Tryz.f92.ntmps-args.length) (.d .undef)) h (kFin env.P h.length false [.tmp 2]):=
 aT (mode:=2) kr Tryz.func92 kr kr xF kr kr
noncomputable def EC:SC:=bD Tryz.f92 0
theorem H0:aM env call L nf thaw live (eB 0) m (n+1) s h k=aK env call L nf thaw live eB EC s h (bC env call L nf thaw live (eB 0) m n k):=
 aP xF kr
noncomputable def EF:SC:=bD Tryz.f92 1
theorem GC:aM env call L nf thaw live (eB 1) m (n+1) s h k=aK env call L nf thaw live eB EF s h (bC env call L nf thaw live (eB 1) m n k):=
 aP xF kr
noncomputable def D4:SC:=bD Tryz.f92 2
theorem GV:aM env call L nf thaw live (eB 2) m (n+1) s h k=aK env call L nf thaw live eB D4 s h (bC env call L nf thaw live (eB 2) m n k):=
 aP xF kr
noncomputable def B0:SC:=aY Tryz.f93
noncomputable def RL:Nat->Code:=lpOf Tryz.f93
theorem RI:aQ (aS Tryz.f93)=true:=kr
theorem RM:aA env L (n+1) 93 args h=aK env (aA env L n) L h.length [] ([]) RL B0 (args++List.replicate (Tryz.f93.ntmps-args.length) (.d .undef)) h (kFin env.P h.length false [.tmp 9]):=
 aT (mode:=0) kr Tryz.func93 kr kr RI kr kr
noncomputable def vE:SC:=aY Tryz.f94
noncomputable def dF:Nat->Code:=lpOf Tryz.f94
theorem s8:aQ (aS Tryz.f94)=true:=kr
theorem AH:aA env L (n+1) 94 args h=aK env (aA env L n) L h.length (W16 (W2 [2])) Bz2 dF vE (args++List.replicate (Tryz.f94.ntmps-args.length) (.d .undef)) h (kFin env.P h.length false [.tmp 10,.tmp 11]):=
 aT (mode:=1) kr Tryz.func94 kr kr s8 kr kr
noncomputable def mD:SC:=bD Tryz.f94 0
theorem mI:aM env call L nf thaw live (dF 0) m (n+1) s h k=aK env call L nf thaw live dF mD s h (bC env call L nf thaw live (dF 0) m n k):=
 aP s8 kr
noncomputable def qX:SC:=bD Tryz.f94 1
theorem rW:aM env call L nf thaw live (dF 1) m (n+1) s h k=aK env call L nf thaw live dF qX s h (bC env call L nf thaw live (dF 1) m n k):=
 aP s8 kr
noncomputable def xL:SC:=bD Tryz.f94 2
theorem DC:aM env call L nf thaw live (dF 2) m (n+1) s h k=aK env call L nf thaw live dF xL s h (bC env call L nf thaw live (dF 2) m n k):=
 aP s8 kr
noncomputable def CC:SC:=aY Tryz.f95
noncomputable def RF:Nat->Code:=lpOf Tryz.f95
theorem RJ:aQ (aS Tryz.f95)=true:=kr
theorem RE:aA env L (n+1) 95 args h=aK env (aA env L n) L h.length [] ([]) RF CC (args++List.replicate (Tryz.f95.ntmps-args.length) (.d .undef)) h (kFin env.P h.length false [.tmp 6]):=
 aT (mode:=0) kr Tryz.func95 kr kr RJ kr kr
noncomputable def qY:SC:=aY Tryz.f99
noncomputable def HO:Nat->Code:=lpOf Tryz.f99
theorem IS:aQ (aS Tryz.f99)=true:=kr
theorem aAz:aA env L (n+1) 99 args h=aK env (aA env L n) L h.length [] ([]) HO qY (args++List.replicate (Tryz.f99.ntmps-args.length) (.d .undef)) h (kFin env.P h.length false [.tmp 2]):=
 aT (mode:=1) kr Tryz.func99 kr kr IS kr kr
noncomputable def mH:SC:=aY Tryz.f100
noncomputable def z6:Nat->Code:=lpOf Tryz.f100
theorem zP:aQ (aS Tryz.f100)=true:=kr
theorem RT:aA env L (n+1) 100 args h=aK env (aA env L n) L h.length [] ([]) z6 mH (args++List.replicate (Tryz.f100.ntmps-args.length) (.d .undef)) h (kFin env.P h.length false [.tmp 2]):=
 aT (mode:=1) kr Tryz.func100 kr kr zP kr kr
noncomputable def aET:SC:=aY Tryz.f101
noncomputable def aLn:Nat->Code:=lpOf Tryz.f101
theorem aLO:aQ (aS Tryz.f101)=true:=kr
theorem aMb:aA env L (n+1) 101 args h=aK env (aA env L n) L h.length [] ([]) aLn aET (args++List.replicate (Tryz.f101.ntmps-args.length) (.d .undef)) h (kFin env.P h.length false [.tmp 4]):=
 aT (mode:=1) kr Tryz.func101 kr kr aLO kr kr
noncomputable def XQ:SC:=aY Tryz.f102
noncomputable def gB:Nat->Code:=lpOf Tryz.f102
theorem GZ:aQ (aS Tryz.f102)=true:=kr
theorem aHF:aA env L (n+1) 102 args h=aK env (aA env L n) L h.length [] Bz28 gB XQ (args++List.replicate (Tryz.f102.ntmps-args.length) (.d .undef)) h (kFin env.P h.length false [.tmp 2]):=
 aT (mode:=2) kr Tryz.func102 kr kr GZ kr kr
noncomputable def DS:SC:=bD Tryz.f102 0
theorem IK:aM env call L nf thaw live (gB 0) m (n+1) s h k=aK env call L nf thaw live gB DS s h (bC env call L nf thaw live (gB 0) m n k):=
 aP GZ kr
noncomputable def vD:SC:=bD Tryz.f102 1
theorem vZ:aM env call L nf thaw live (gB 1) m (n+1) s h k=aK env call L nf thaw live gB vD s h (bC env call L nf thaw live (gB 1) m n k):=
 aP GZ kr
noncomputable def X3:SC:=aY Tryz.f103
noncomputable def rN:Nat->Code:=lpOf Tryz.f103
theorem VP:aQ (aS Tryz.f103)=true:=kr
theorem aHp:aA env L (n+1) 103 args h=aK env (aA env L n) L h.length [] Bz60 rN X3 (args++List.replicate (Tryz.f103.ntmps-args.length) (.d .undef)) h (kFin env.P h.length false [.tmp 4]):=
 aT (mode:=1) kr Tryz.func103 kr kr VP kr kr
noncomputable def D2:SC:=bD Tryz.f103 0
theorem H2:aM env call L nf thaw live (rN 0) m (n+1) s h k=aK env call L nf thaw live rN D2 s h (bC env call L nf thaw live (rN 0) m n k):=
 aP VP kr
noncomputable def BL:SC:=aY Tryz.f104
noncomputable def aGT:Nat->Code:=lpOf Tryz.f104
theorem aHq:aQ (aS Tryz.f104)=true:=kr
theorem HY:aA env L (n+1) 104 args h=aK env (aA env L n) L h.length [] ([]) aGT BL (args++List.replicate (Tryz.f104.ntmps-args.length) (.d .undef)) h (kFin env.P h.length false [.tmp 4]):=
 aT (mode:=1) kr Tryz.func104 kr kr aHq kr kr
noncomputable def BS:SC:=aY Tryz.f105
noncomputable def cF:Nat->Code:=lpOf Tryz.f105
theorem sA:aQ (aS Tryz.f105)=true:=kr
theorem GQ:aA env L (n+1) 105 args h=aK env (aA env L n) L h.length [] Bz0 cF BS (args++List.replicate (Tryz.f105.ntmps-args.length) (.d .undef)) h (kFin env.P h.length false [.tmp 2,.tmp 3]):=
 aT (mode:=1) kr Tryz.func105 kr kr sA kr kr
noncomputable def DU:SC:=bD Tryz.f105 0
theorem HW:aM env call L nf thaw live (cF 0) m (n+1) s h k=aK env call L nf thaw live cF DU s h (bC env call L nf thaw live (cF 0) m n k):=
 aP sA kr
noncomputable def vC:SC:=bD Tryz.f105 1
theorem vT:aM env call L nf thaw live (cF 1) m (n+1) s h k=aK env call L nf thaw live cF vC s h (bC env call L nf thaw live (cF 1) m n k):=
 aP sA kr
noncomputable def pP:SC:=bD Tryz.f105 2
theorem pE:aM env call L nf thaw live (cF 2) m (n+1) s h k=aK env call L nf thaw live cF pP s h (bC env call L nf thaw live (cF 2) m n k):=
 aP sA kr
noncomputable def pN:SC:=bD Tryz.f105 3
theorem pB:aM env call L nf thaw live (cF 3) m (n+1) s h k=aK env call L nf thaw live cF pN s h (bC env call L nf thaw live (cF 3) m n k):=
 aP sA kr
noncomputable def tC:SC:=aY Tryz.f106
noncomputable def aCJ:Nat->Code:=lpOf Tryz.f106
theorem aBZ:aQ (aS Tryz.f106)=true:=kr
theorem yR:aA env L (n+1) 106 args h=aK env (aA env L n) L h.length [] ([]) aCJ tC (args++List.replicate (Tryz.f106.ntmps-args.length) (.d .undef)) h (kFin env.P h.length false [.tmp 4]):=
 aT (mode:=1) kr Tryz.func106 kr kr aBZ kr kr
noncomputable def G6:SC:=aY Tryz.f107
noncomputable def XB:Nat->Code:=lpOf Tryz.f107
theorem XE:aQ (aS Tryz.f107)=true:=kr
theorem WY:aA env L (n+1) 107 args h=aK env (aA env L n) L h.length [] ([]) XB G6 (args++List.replicate (Tryz.f107.ntmps-args.length) (.d .undef)) h (kFin env.P h.length false [.tmp 7]):=
 aT (mode:=0) kr Tryz.func107 kr kr XE kr kr
noncomputable def aBq:SC:=aY Tryz.f122
noncomputable def hU:Nat->Code:=lpOf Tryz.f122
theorem LQ:aQ (aS Tryz.f122)=true:=kr
theorem aJX:aA env L (n+1) 122 args h=aK env (aA env L n) L h.length [] Bz10 hU aBq (args++List.replicate (Tryz.f122.ntmps-args.length) (.d .undef)) h (kFin env.P h.length false Tryz.f122.results.toList):=
 aT (mode:=0) kr Tryz.func122 kr kr LQ kr kr
noncomputable def HD:SC:=bD Tryz.f122 0
theorem JS:aM env call L nf thaw live (hU 0) m (n+1) s h k=aK env call L nf thaw live hU HD s h (bC env call L nf thaw live (hU 0) m n k):=
 aP LQ kr
noncomputable def HT:SC:=bD Tryz.f122 1
theorem J0:aM env call L nf thaw live (hU 1) m (n+1) s h k=aK env call L nf thaw live hU HT s h (bC env call L nf thaw live (hU 1) m n k):=
 aP LQ kr
noncomputable def oP:SC:=aY Tryz.f126
noncomputable def i8:Nat->Code:=lpOf Tryz.f126
theorem EZ:aQ (aS Tryz.f126)=true:=kr
theorem uA:aA env L (n+1) 126 args h=aK env (aA env L n) L h.length (W8 (W2 [2])) Bz9 i8 oP (args++List.replicate (Tryz.f126.ntmps-args.length) (.d .undef)) h (kFin env.P h.length false [.tmp 9]):=
 aT (mode:=0) kr Tryz.func126 kr kr EZ kr kr
noncomputable def cR:SC:=bD Tryz.f126 0
theorem cN:aM env call L nf thaw live (i8 0) m (n+1) s h k=aK env call L nf thaw live i8 cR s h (bC env call L nf thaw live (i8 0) m n k):=
 aP EZ kr
noncomputable def VJ:SC:=aY Tryz.f127
noncomputable def pI:Nat->Code:=lpOf Tryz.f127
theorem QS:aQ (aS Tryz.f127)=true:=kr
theorem aGf:aA env L (n+1) 127 args h=aK env (aA env L n) L h.length [0,0,0,2] Bz38 pI VJ (args++List.replicate (Tryz.f127.ntmps-args.length) (.d .undef)) h (kFin env.P h.length false [.tmp 2]):=
 aT (mode:=1) kr Tryz.func127 kr kr QS kr kr
noncomputable def A9:SC:=bD Tryz.f127 0
theorem EV:aM env call L nf thaw live (pI 0) m (n+1) s h k=aK env call L nf thaw live pI A9 s h (bC env call L nf thaw live (pI 0) m n k):=
 aP QS kr
noncomputable def aAN:SC:=aY Tryz.f128
noncomputable def CQ:Nat->Code:=lpOf Tryz.f128
theorem aFn:aQ (aS Tryz.f128)=true:=kr
theorem aFh:aA env L (n+1) 128 args h=aK env (aA env L n) L h.length [] Bz14 CQ aAN (args++List.replicate (Tryz.f128.ntmps-args.length) (.d .undef)) h (kFin env.P h.length false [.tmp 4]):=
 aT (mode:=1) kr Tryz.func128 kr kr aFn kr kr
noncomputable def E8:SC:=bD Tryz.f128 0
theorem EE:aM env call L nf thaw live (CQ 0) m (n+1) s h k=aK env call L nf thaw live CQ E8 s h (bC env call L nf thaw live (CQ 0) m n k):=
 aP aFn kr
noncomputable def YY:SC:=aY Tryz.f129
noncomputable def iH:Nat->Code:=lpOf Tryz.f129
theorem G8:aQ (aS Tryz.f129)=true:=kr
theorem aHR:aA env L (n+1) 129 args h=aK env (aA env L n) L h.length [] Bz34 iH YY (args++List.replicate (Tryz.f129.ntmps-args.length) (.d .undef)) h (kFin env.P h.length false [.tmp 2]):=
 aT (mode:=2) kr Tryz.func129 kr kr G8 kr kr
noncomputable def EA:SC:=bD Tryz.f129 0
theorem GI:aM env call L nf thaw live (iH 0) m (n+1) s h k=aK env call L nf thaw live iH EA s h (bC env call L nf thaw live (iH 0) m n k):=
 aP G8 kr
noncomputable def D7:SC:=bD Tryz.f129 1
theorem HU:aM env call L nf thaw live (iH 1) m (n+1) s h k=aK env call L nf thaw live iH D7 s h (bC env call L nf thaw live (iH 1) m n k):=
 aP G8 kr
noncomputable def X0:SC:=aY Tryz.f130
noncomputable def iM:Nat->Code:=lpOf Tryz.f130
theorem IC:aQ (aS Tryz.f130)=true:=kr
theorem aHj:aA env L (n+1) 130 args h=aK env (aA env L n) L h.length [] Bz17 iM X0 (args++List.replicate (Tryz.f130.ntmps-args.length) (.d .undef)) h (kFin env.P h.length false [.tmp 6]):=
 aT (mode:=2) kr Tryz.func130 kr kr IC kr kr
noncomputable def DY:SC:=bD Tryz.f130 0
theorem G7:aM env call L nf thaw live (iM 0) m (n+1) s h k=aK env call L nf thaw live iM DY s h (bC env call L nf thaw live (iM 0) m n k):=
 aP IC kr
noncomputable def DW:SC:=bD Tryz.f130 1
theorem GR:aM env call L nf thaw live (iM 1) m (n+1) s h k=aK env call L nf thaw live iM DW s h (bC env call L nf thaw live (iM 1) m n k):=
 aP IC kr
noncomputable def mR:SC:=aY Tryz.f131
noncomputable def aHk:Nat->Code:=lpOf Tryz.f131
theorem aHP:aQ (aS Tryz.f131)=true:=kr
theorem nD:aA env L (n+1) 131 args h=aK env (aA env L n) L h.length [] (Z2 (U1 (Z2 (Z1 (U2 (Z32 (Z16 (Z8 ([]))))))))) aHk mR (args++List.replicate (Tryz.f131.ntmps-args.length) (.d .undef)) h (kFin env.P h.length false [.tmp 6]):=
 aT (mode:=1) kr Tryz.func131 kr kr aHP kr kr
noncomputable def UY:SC:=aY Tryz.f132
noncomputable def pG:Nat->Code:=lpOf Tryz.f132
theorem RD:aQ (aS Tryz.f132)=true:=kr
theorem aGb:aA env L (n+1) 132 args h=aK env (aA env L n) L h.length [] Bz45 pG UY (args++List.replicate (Tryz.f132.ntmps-args.length) (.d .undef)) h (kFin env.P h.length false [.tmp 4]):=
 aT (mode:=2) kr Tryz.func132 kr kr RD kr kr
noncomputable def AJ:SC:=bD Tryz.f132 0
theorem EI:aM env call L nf thaw live (pG 0) m (n+1) s h k=aK env call L nf thaw live pG AJ s h (bC env call L nf thaw live (pG 0) m n k):=
 aP RD kr
noncomputable def aB2:SC:=aY Tryz.f133
noncomputable def hM:Nat->Code:=lpOf Tryz.f133
theorem L8:aQ (aS Tryz.f133)=true:=kr
theorem aJy:aA env L (n+1) 133 args h=aK env (aA env L n) L h.length [] Bz19 hM aB2 (args++List.replicate (Tryz.f133.ntmps-args.length) (.d .undef)) h (kFin env.P h.length false []):=
 aT (mode:=0) kr Tryz.func133 kr kr L8 kr kr
noncomputable def yT:SC:=bD Tryz.f133 0
theorem x7:aM env call L nf thaw live (hM 0) m (n+1) s h k=aK env call L nf thaw live hM yT s h (bC env call L nf thaw live (hM 0) m n k):=
 aP L8 kr
noncomputable def rH:SC:=bD Tryz.f133 1
theorem qJ:aM env call L nf thaw live (hM 1) m (n+1) s h k=aK env call L nf thaw live hM rH s h (bC env call L nf thaw live (hM 1) m n k):=
 aP L8 kr
noncomputable def TL:SC:=aY Tryz.f134
noncomputable def pH:Nat->Code:=lpOf Tryz.f134
theorem P4:aQ (aS Tryz.f134)=true:=kr
theorem aGJ:aA env L (n+1) 134 args h=aK env (aA env L n) L h.length [] Bz54 pH TL (args++List.replicate (Tryz.f134.ntmps-args.length) (.d .undef)) h (kFin env.P h.length false [.tmp 4]):=
 aT (mode:=1) kr Tryz.func134 kr kr P4 kr kr
noncomputable def AD:SC:=bD Tryz.f134 0
theorem EW:aM env call L nf thaw live (pH 0) m (n+1) s h k=aK env call L nf thaw live pH AD s h (bC env call L nf thaw live (pH 0) m n k):=
 aP P4 kr
noncomputable def VC:SC:=aY Tryz.f135
noncomputable def gE:Nat->Code:=lpOf Tryz.f135
theorem EH:aQ (aS Tryz.f135)=true:=kr
theorem aGH:aA env L (n+1) 135 args h=aK env (aA env L n) L h.length [] Bz22 gE VC (args++List.replicate (Tryz.f135.ntmps-args.length) (.d .undef)) h (kFin env.P h.length false [.tmp 10]):=
 aT (mode:=2) kr Tryz.func135 kr kr EH kr kr
noncomputable def A5:SC:=bD Tryz.f135 0
theorem E5:aM env call L nf thaw live (gE 0) m (n+1) s h k=aK env call L nf thaw live gE A5 s h (bC env call L nf thaw live (gE 0) m n k):=
 aP EH kr
noncomputable def nY:SC:=bD Tryz.f135 1
theorem m7:aM env call L nf thaw live (gE 1) m (n+1) s h k=aK env call L nf thaw live gE nY s h (bC env call L nf thaw live (gE 1) m n k):=
 aP EH kr
noncomputable def vB:SC:=aY Tryz.f136
noncomputable def nQ:Nat->Code:=lpOf Tryz.f136
theorem MZ:aQ (aS Tryz.f136)=true:=kr
theorem A2:aA env L (n+1) 136 args h=aK env (aA env L n) L h.length [] Bz55 nQ vB (args++List.replicate (Tryz.f136.ntmps-args.length) (.d .undef)) h (kFin env.P h.length false [.tmp 2]):=
 aT (mode:=1) kr Tryz.func136 kr kr MZ kr kr
noncomputable def mL:SC:=bD Tryz.f136 0
theorem mB:aM env call L nf thaw live (nQ 0) m (n+1) s h k=aK env call L nf thaw live nQ mL s h (bC env call L nf thaw live (nQ 0) m n k):=
 aP MZ kr
noncomputable def aAD:SC:=aY Tryz.f147
noncomputable def aNv:Nat->Code:=lpOf Tryz.f147
theorem aPO:aQ (aS Tryz.f147)=true:=kr
theorem aEl:aA env L (n+1) 147 args h=aK env (aA env L n) L h.length [] ([]) aNv aAD (args++List.replicate (Tryz.f147.ntmps-args.length) (.d .undef)) h (kFin env.P h.length false [.tmp 6]):=
 aT (mode:=1) kr Tryz.func147 kr kr aPO kr kr
noncomputable def aIH:SC:=aY Tryz.f148
noncomputable def aPq:Nat->Code:=lpOf Tryz.f148
theorem aNq:aQ (aS Tryz.f148)=true:=kr
theorem aOD:aA env L (n+1) 148 args h=aK env (aA env L n) L h.length [] ([]) aPq aIH (args++List.replicate (Tryz.f148.ntmps-args.length) (.d .undef)) h (kFin env.P h.length false [.tmp 4]):=
 aT (mode:=1) kr Tryz.func148 kr kr aNq kr kr
noncomputable def pM:SC:=aY Tryz.f149
noncomputable def dN:Nat->Code:=lpOf Tryz.f149
theorem oC:aQ (aS Tryz.f149)=true:=kr
theorem CT:aA env L (n+1) 149 args h=aK env (aA env L n) L h.length [] Bz39 dN pM (args++List.replicate (Tryz.f149.ntmps-args.length) (.d .undef)) h (kFin env.P h.length false []):=
 aT (mode:=0) kr Tryz.func149 kr kr oC kr kr
noncomputable def fM:SC:=bD Tryz.f149 0
theorem gY:aM env call L nf thaw live (dN 0) m (n+1) s h k=aK env call L nf thaw live dN fM s h (bC env call L nf thaw live (dN 0) m n k):=
 aP oC kr
noncomputable def YI:SC:=aY Tryz.f150
noncomputable def eC:Nat->Code:=lpOf Tryz.f150
theorem y4:aQ (aS Tryz.f150)=true:=kr
theorem aHt:aA env L (n+1) 150 args h=aK env (aA env L n) L h.length [] Bz7 eC YI (args++List.replicate (Tryz.f150.ntmps-args.length) (.d .undef)) h (kFin env.P h.length false [.tmp 8]):=
 aT (mode:=2) kr Tryz.func150 kr kr y4 kr kr
noncomputable def D6:SC:=bD Tryz.f150 0
theorem HP:aM env call L nf thaw live (eC 0) m (n+1) s h k=aK env call L nf thaw live eC D6 s h (bC env call L nf thaw live (eC 0) m n k):=
 aP y4 kr
noncomputable def D1:SC:=bD Tryz.f150 1
theorem IE:aM env call L nf thaw live (eC 1) m (n+1) s h k=aK env call L nf thaw live eC D1 s h (bC env call L nf thaw live (eC 1) m n k):=
 aP y4 kr
noncomputable def EB:SC:=bD Tryz.f150 2
theorem HC:aM env call L nf thaw live (eC 2) m (n+1) s h k=aK env call L nf thaw live eC EB s h (bC env call L nf thaw live (eC 2) m n k):=
 aP y4 kr
noncomputable def aIx:SC:=aY Tryz.f151
noncomputable def aPU:Nat->Code:=lpOf Tryz.f151
theorem aNi:aQ (aS Tryz.f151)=true:=kr
theorem aNO:aA env L (n+1) 151 args h=aK env (aA env L n) L h.length [] ([]) aPU aIx (args++List.replicate (Tryz.f151.ntmps-args.length) (.d .undef)) h (kFin env.P h.length false [.tmp 6]):=
 aT (mode:=1) kr Tryz.func151 kr kr aNi kr kr
noncomputable def N6:SC:=aY Tryz.f152
noncomputable def jU:Nat->Code:=lpOf Tryz.f152
theorem MA:aQ (aS Tryz.f152)=true:=kr
theorem X5:aA env L (n+1) 152 args h=aK env (aA env L n) L h.length [] Bz18 jU N6 (args++List.replicate (Tryz.f152.ntmps-args.length) (.d .undef)) h (kFin env.P h.length false [.tmp 6]):=
 aT (mode:=1) kr Tryz.func152 kr kr MA kr kr
noncomputable def xX:SC:=bD Tryz.f152 0
theorem zB:aM env call L nf thaw live (jU 0) m (n+1) s h k=aK env call L nf thaw live jU xX s h (bC env call L nf thaw live (jU 0) m n k):=
 aP MA kr
noncomputable def yJ:SC:=bD Tryz.f152 1
theorem x8:aM env call L nf thaw live (jU 1) m (n+1) s h k=aK env call L nf thaw live jU yJ s h (bC env call L nf thaw live (jU 1) m n k):=
 aP MA kr
noncomputable def YB:SC:=aY Tryz.f156
noncomputable def rO:Nat->Code:=lpOf Tryz.f156
theorem SF:aQ (aS Tryz.f156)=true:=kr
theorem aIl:aA env L (n+1) 156 args h=aK env (aA env L n) L h.length [] Bz49 rO YB (args++List.replicate (Tryz.f156.ntmps-args.length) (.d .undef)) h (kFin env.P h.length false [.tmp 4]):=
 aT (mode:=1) kr Tryz.func156 kr kr SF kr kr
noncomputable def uZ:SC:=bD Tryz.f156 0
theorem vM:aM env call L nf thaw live (rO 0) m (n+1) s h k=aK env call L nf thaw live rO uZ s h (bC env call L nf thaw live (rO 0) m n k):=
 aP SF kr
noncomputable def QB:SC:=aY Tryz.f157
noncomputable def aDq:Nat->Code:=lpOf Tryz.f157
theorem aEb:aQ (aS Tryz.f157)=true:=kr
theorem aDW:aA env L (n+1) 157 args h=aK env (aA env L n) L h.length [] (Z2 (U2 (Z4 (U4 (Z32 (Z32 (Z2 (Z1 ([]))))))))) aDq QB (args++List.replicate (Tryz.f157.ntmps-args.length) (.d .undef)) h (kFin env.P h.length false [.tmp 8]):=
 aT (mode:=2) kr Tryz.func157 kr kr aEb kr kr
end
end Ev
end Go.Proofs.YthlkcebdfbjdoaaGreat
