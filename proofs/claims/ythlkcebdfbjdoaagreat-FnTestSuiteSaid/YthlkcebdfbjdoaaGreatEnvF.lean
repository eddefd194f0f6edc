/-
  Each function's code as an equation. Written by a program.
-/
import Derived.Test.YthlkcebdfbjdoaaGreatEnv
set_option linter.unusedSimpArgs false
set_option linter.unusedVariables false
set_option maxRecDepth 100000
namespace Go.Proofs.YthlkcebdfbjdoaaGreat
namespace Ev
abbrev FN(f:Nat)(fn:Func)(th:List Nat)(lv:List Bool)(lp:Nat->Code)(S:SC)(e:Bool)(rs:List ResultVar):Prop:=∀(L n:Nat) (args:List A) (h:H),aA env L (n+1) f args h=cO env (aA env L n) L h.length th lv lp S (args++List.replicate (fn.ntmps-args.length) (.d .undef)) h (kFin env.P h.length e rs)
theorem fN (mode : Nat) {f : Nat} {fn : Func} {e : Bool} {th : List Nat} {lv : List Bool} {rs : List ResultVar} (hf : env.P.funcs[f]? = some fn) (hd : aN (aO fn) = true) (hp : (env.prim f).isNone = true := by kernel_rfl) (hb : fn.body.isSome = true := by kernel_rfl) (hn : (fn.name == "runtime.NumGoroutine") = false := by kernel_rfl) (hh : env.hint f = ⟨mode, e, th, lv⟩ := by kernel_rfl) (hr : fn.results.toList = rs := by kernel_rfl) : FN f fn th lv (lpOf fn) (aT fn) e rs := fun _ _ _ _ => HN hp hf hb hn hd hh hr
abbrev ST(lp:Nat->Code)(i:Nat)(S:SC):Prop:=∀(R:Type) (call:aU) (L nf n:Nat) (thaw:List Nat) (live m:List Bool) (s:List A) (h:H) (k:KE R),aS env call L nf thaw live (lp i) m (n+1) s h k=cO env call L nf thaw live lp S s h (U6 env call L nf thaw live (lp i) m n k)
theorem sT{fn:Func}{i:Nat}(hd:aN (aO fn)=true)(hi:((bN (aO fn))[i]?).isSome=true:=by kernel_rfl):ST (lpOf fn) i (a7 fn i):=fun _ _ _ _ _ _ _ _ _ _ _=>aBD hd hi
section
variable{R:Type}{call:aU}{L nf n:Nat}{thaw:List Nat}{live m:List Bool}{s args:List A}{h:H}{k:KE R}
noncomputable def uI:SC:=aT Tryz.f4
noncomputable def eM:Nat->Code:=lpOf Tryz.f4
theorem mU:aN (aO Tryz.f4)=true:=kr
theorem z7:FN 4 Tryz.f4 [] Bz3 eM uI false [.tmp 2]:=fN 1 Tryz.func4 mU
noncomputable def yJ:SC:=a7 Tryz.f4 0
theorem BM:ST eM 0 yJ:=sT mU
noncomputable def xY:SC:=a7 Tryz.f4 1
theorem BC:ST eM 1 xY:=sT mU
noncomputable def yK:SC:=a7 Tryz.f4 2
theorem A6:ST eM 2 yK:=sT mU
noncomputable def pN:SC:=a7 Tryz.f4 3
theorem rL:ST eM 3 pN:=sT mU
noncomputable def DD:SC:=aT Tryz.f8
noncomputable def UW:Nat->Code:=lpOf Tryz.f8
theorem UU:aN (aO Tryz.f8)=true:=kr
theorem RY:FN 8 Tryz.f8 [] ([]) UW DD false (Tryz.f8.results.toList):=fN 2 Tryz.func8 UU
noncomputable def kX:SC:=aT Tryz.f9
noncomputable def iP:Nat->Code:=lpOf Tryz.f9
theorem sC:aN (aO Tryz.f9)=true:=kr
theorem m9:FN 9 Tryz.f9 [] Bz1 iP kX true [.tmp 4,.tmp 5]:=fN 3 Tryz.func9 sC
noncomputable def pH:SC:=a7 Tryz.f9 0
theorem qU:ST iP 0 pH:=sT sC
noncomputable def pR:SC:=a7 Tryz.f9 1
theorem qL:ST iP 1 pR:=sT sC
noncomputable def xN:SC:=a7 Tryz.f9 2
theorem BA:ST iP 2 xN:=sT sC
noncomputable def kY:SC:=aT Tryz.f10
noncomputable def iR:Nat->Code:=lpOf Tryz.f10
theorem sD:aN (aO Tryz.f10)=true:=kr
theorem mV:FN 10 Tryz.f10 [] Bz11 iR kY false [.tmp 4,.tmp 5]:=fN 2 Tryz.func10 sD
noncomputable def pY:SC:=a7 Tryz.f10 0
theorem qN:ST iR 0 pY:=sT sD
noncomputable def pI:SC:=a7 Tryz.f10 1
theorem qR:ST iR 1 pI:=sT sD
noncomputable def qC:SC:=a7 Tryz.f10 2
theorem qD:ST iR 2 qC:=sT sD
noncomputable def XN:SC:=aT Tryz.f11
noncomputable def G3:Nat->Code:=lpOf Tryz.f11
theorem TR:aN (aO Tryz.f11)=true:=kr
theorem aGT:FN 11 Tryz.f11 [] Bz56 G3 XN false [.tmp 4]:=fN 1 Tryz.func11 TR
noncomputable def CF:SC:=a7 Tryz.f11 0
theorem F2:ST G3 0 CF:=sT TR
noncomputable def m2:SC:=aT Tryz.f12
noncomputable def x4:Nat->Code:=lpOf Tryz.f12
theorem IX:aN (aO Tryz.f12)=true:=kr
theorem pX:FN 12 Tryz.f12 [] Bz41 x4 m2 false [.tmp 4]:=fN 1 Tryz.func12 IX
noncomputable def nQ:SC:=a7 Tryz.f12 0
theorem pE:ST x4 0 nQ:=sT IX
noncomputable def rS:SC:=aT Tryz.f13
noncomputable def aBR:Nat->Code:=lpOf Tryz.f13
theorem aAP:aN (aO Tryz.f13)=true:=kr
theorem yH:FN 13 Tryz.f13 [] ([]) aBR rS false [.tmp 4]:=fN 1 Tryz.func13 aAP
noncomputable def K6:SC:=aT Tryz.f14
noncomputable def yD:Nat->Code:=lpOf Tryz.f14
theorem IZ:aN (aO Tryz.f14)=true:=kr
theorem aBr:FN 14 Tryz.f14 [0,0,0,2] Bz44 yD K6 true [.tmp 2]:=fN 3 Tryz.func14 IZ
noncomputable def oB:SC:=a7 Tryz.f14 0
theorem pA:ST yD 0 oB:=sT IZ
noncomputable def yT:SC:=aT Tryz.f15
noncomputable def gL:Nat->Code:=lpOf Tryz.f15
theorem oA:aN (aO Tryz.f15)=true:=kr
theorem NN:FN 15 Tryz.f15 [] Bz16 gL yT true [.tmp 2]:=fN 3 Tryz.func15 oA
noncomputable def mN:SC:=a7 Tryz.f15 0
theorem qE:ST gL 0 mN:=sT oA
noncomputable def fR:SC:=a7 Tryz.f15 1
theorem gH:ST gL 1 fR:=sT oA
noncomputable def aJV:SC:=aT Tryz.f16
noncomputable def aN3:Nat->Code:=lpOf Tryz.f16
theorem aNp:aN (aO Tryz.f16)=true:=kr
theorem aNJ:FN 16 Tryz.f16 [] ([]) aN3 aJV false [.tmp 4]:=fN 1 Tryz.func16 aNp
noncomputable def KF:SC:=aT Tryz.f17
noncomputable def GY:Nat->Code:=lpOf Tryz.f17
theorem Q3:aN (aO Tryz.f17)=true:=kr
theorem R4:FN 17 Tryz.f17 [] Bz14 GY KF false [.tmp 4]:=fN 1 Tryz.func17 Q3
noncomputable def tZ:SC:=a7 Tryz.f17 0
theorem u3:ST GY 0 tZ:=sT Q3
noncomputable def aAS:SC:=aT Tryz.f18
noncomputable def aIJ:Nat->Code:=lpOf Tryz.f18
theorem aIj:aN (aO Tryz.f18)=true:=kr
theorem aIL:FN 18 Tryz.f18 [] ([]) aIJ aAS false [.tmp 2]:=fN 1 Tryz.func18 aIj
noncomputable def J7:SC:=aT Tryz.f27
noncomputable def aG2:Nat->Code:=lpOf Tryz.f27
theorem aGU:aN (aO Tryz.f27)=true:=kr
theorem RE:FN 27 Tryz.f27 [] ([]) aG2 J7 true [.tmp 2]:=fN 2 Tryz.func27 aGU
noncomputable def iW:SC:=aT Tryz.f28
noncomputable def aHO:Nat->Code:=lpOf Tryz.f28
theorem aHh:aN (aO Tryz.f28)=true:=kr
theorem jA:FN 28 Tryz.f28 [] ([]) aHO iW false (Tryz.f28.results.toList):=fN 0 Tryz.func28 aHh
noncomputable def TV:SC:=aT Tryz.f29
noncomputable def aFb:Nat->Code:=lpOf Tryz.f29
theorem aFz:aN (aO Tryz.f29)=true:=kr
theorem aFA:FN 29 Tryz.f29 [] ([]) aFb TV false [.tmp 2]:=fN 0 Tryz.func29 aFz
noncomputable def eD:SC:=aT Tryz.f30
noncomputable def iI:Nat->Code:=lpOf Tryz.f30
theorem o7:aN (aO Tryz.f30)=true:=kr
theorem fC:FN 30 Tryz.f30 [] Bz8 iI eD false [.tmp 2]:=fN 1 Tryz.func30 o7
noncomputable def gQ:SC:=a7 Tryz.f30 0
theorem iD:ST iI 0 gQ:=sT o7
noncomputable def gT:SC:=a7 Tryz.f30 1
theorem iE:ST iI 1 gT:=sT o7
noncomputable def PG:SC:=aT Tryz.f31
noncomputable def iM:Nat->Code:=lpOf Tryz.f31
theorem sA:aN (aO Tryz.f31)=true:=kr
theorem aCX:FN 31 Tryz.f31 (W8 (W4 [2002])) Bz5 iM PG false [.tmp 4]:=fN 2 Tryz.func31 sA
noncomputable def xJ:SC:=a7 Tryz.f31 0
theorem AX:ST iM 0 xJ:=sT sA
noncomputable def xV:SC:=a7 Tryz.f31 1
theorem B2:ST iM 1 xV:=sT sA
noncomputable def wQ:SC:=a7 Tryz.f31 2
theorem BE:ST iM 2 wQ:=sT sA
theorem yM{L n:Nat}{args:List A}{h:H}:aA env L (n+1) 32 args h=y8 66 34 args h:=by
 have:env.prim 32=some (y8 66 34):=kr;simp only[aA,this]
noncomputable def hJ:SC:=aT Tryz.f33
noncomputable def nN:Nat->Code:=lpOf Tryz.f33
theorem nJ:aN (aO Tryz.f33)=true:=kr
theorem nY:FN 33 Tryz.f33 [] ([]) nN hJ true [.tmp 2]:=fN 0 Tryz.func33 nJ
noncomputable def xT:SC:=aT Tryz.f34
noncomputable def PH:Nat->Code:=lpOf Tryz.f34
theorem PN:aN (aO Tryz.f34)=true:=kr
theorem aFD:FN 34 Tryz.f34 [] ([]) PH xT false [.tmp 4]:=fN 1 Tryz.func34 PN
noncomputable def eC:SC:=aT Tryz.f35
noncomputable def pB:Nat->Code:=lpOf Tryz.f35
theorem yS:aN (aO Tryz.f35)=true:=kr
theorem fB:FN 35 Tryz.f35 [] Bz51 pB eC false [.tmp 2]:=fN 1 Tryz.func35 yS
noncomputable def jX:SC:=a7 Tryz.f35 0
theorem kW:ST pB 0 jX:=sT yS
noncomputable def zZ:SC:=aT Tryz.f36
noncomputable def yE:Nat->Code:=lpOf Tryz.f36
theorem JS:aN (aO Tryz.f36)=true:=kr
theorem JJ:FN 36 Tryz.f36 [] Bz57 yE zZ false [.tmp 2]:=fN 2 Tryz.func36 JS
noncomputable def uP:SC:=a7 Tryz.f36 0
theorem yP:ST yE 0 uP:=sT JS
noncomputable def o9:SC:=aT Tryz.f37
noncomputable def gS:Nat->Code:=lpOf Tryz.f37
theorem nP:aN (aO Tryz.f37)=true:=kr
theorem wW:FN 37 Tryz.f37 [] Bz33 gS o9 false [.tmp 2]:=fN 2 Tryz.func37 nP
noncomputable def mY:SC:=a7 Tryz.f37 0
theorem qS:ST gS 0 mY:=sT nP
noncomputable def fS:SC:=a7 Tryz.f37 1
theorem gA:ST gS 1 fS:=sT nP
noncomputable def O0:SC:=aT Tryz.f38
noncomputable def kC:Nat->Code:=lpOf Tryz.f38
theorem y9:aN (aO Tryz.f38)=true:=kr
theorem aCA:FN 38 Tryz.f38 [] Bz12 kC O0 false [.tmp 4]:=fN 2 Tryz.func38 y9
noncomputable def p9:SC:=a7 Tryz.f38 0
theorem qQ:ST kC 0 p9:=sT y9
noncomputable def x3:SC:=a7 Tryz.f38 1
theorem BW:ST kC 1 x3:=sT y9
noncomputable def ED:SC:=aT Tryz.f39
noncomputable def KZ:Nat->Code:=lpOf Tryz.f39
theorem XB:aN (aO Tryz.f39)=true:=kr
theorem KP:FN 39 Tryz.f39 [] Bz52 KZ ED false [.tmp 4]:=fN 0 Tryz.func39 XB
noncomputable def GU:SC:=a7 Tryz.f39 0
theorem J1:ST KZ 0 GU:=sT XB
noncomputable def MI:SC:=aT Tryz.f40
noncomputable def aB0:Nat->Code:=lpOf Tryz.f40
theorem aCp:aN (aO Tryz.f40)=true:=kr
theorem aBg:FN 40 Tryz.f40 [] ([]) aB0 MI false [.tmp 2]:=fN 1 Tryz.func40 aCp
noncomputable def aJn:SC:=aT Tryz.f41
noncomputable def aNZ:Nat->Code:=lpOf Tryz.f41
theorem aN4:aN (aO Tryz.f41)=true:=kr
theorem aNV:FN 41 Tryz.f41 [] ([]) aNZ aJn false [.tmp 4]:=fN 1 Tryz.func41 aN4
noncomputable def SY:SC:=aT Tryz.f42
noncomputable def aFk:Nat->Code:=lpOf Tryz.f42
theorem aFi:aN (aO Tryz.f42)=true:=kr
theorem aFE:FN 42 Tryz.f42 [] ([]) aFk SY false [.tmp 4]:=fN 1 Tryz.func42 aFi
noncomputable def P8:SC:=aT Tryz.f43
noncomputable def aCs:Nat->Code:=lpOf Tryz.f43
theorem aC8:aN (aO Tryz.f43)=true:=kr
theorem aC6:FN 43 Tryz.f43 [] ([]) aCs P8 false [.tmp 2]:=fN 1 Tryz.func43 aC8
noncomputable def zY:SC:=aT Tryz.f44
noncomputable def aAo:Nat->Code:=lpOf Tryz.f44
theorem aBQ:aN (aO Tryz.f44)=true:=kr
theorem IJ:FN 44 Tryz.f44 [] ([]) aAo zY false [.tmp 4,.tmp 5]:=fN 1 Tryz.func44 aBQ
theorem s6{L n:Nat}{args:List A}{h:H}:aA env L (n+1) 45 args h=FX 34 args h:=by
 have:env.prim 45=some (FX 34):=kr;simp only[aA,this]
noncomputable def f5:SC:=aT Tryz.f46
noncomputable def YJ:Nat->Code:=lpOf Tryz.f46
theorem Z7:aN (aO Tryz.f46)=true:=kr
theorem iO:FN 46 Tryz.f46 [] ([]) YJ f5 false [.tmp 6,.tmp 7]:=fN 1 Tryz.func46 Z7
noncomputable def kU:SC:=aT Tryz.f47
noncomputable def uU:Nat->Code:=lpOf Tryz.f47
theorem u5:aN (aO Tryz.f47)=true:=kr
theorem uY:FN 47 Tryz.f47 [] ([]) uU kU false [.tmp 4]:=fN 1 Tryz.func47 u5
noncomputable def fE:SC:=aT Tryz.f48
noncomputable def aFv:Nat->Code:=lpOf Tryz.f48
theorem aFF:aN (aO Tryz.f48)=true:=kr
theorem fG:FN 48 Tryz.f48 (W32 (W32 (W16 (W8 (W4 (W1 [1002])))))) ([]) aFv fE false (Tryz.f48.results.toList):=fN 0 Tryz.func48 aFF
noncomputable def m5:SC:=aT Tryz.f49
noncomputable def aBs:Nat->Code:=lpOf Tryz.f49
theorem aBG:aN (aO Tryz.f49)=true:=kr
theorem pZ:FN 49 Tryz.f49 [] ([]) aBs m5 false [.tmp 4]:=fN 0 Tryz.func49 aBG
noncomputable def N8:SC:=aT Tryz.f50
noncomputable def aIX:Nat->Code:=lpOf Tryz.f50
theorem aIw:aN (aO Tryz.f50)=true:=kr
theorem XJ:FN 50 Tryz.f50 [] ([]) aIX N8 false (Tryz.f50.results.toList):=fN 0 Tryz.func50 aIw
noncomputable def JG:SC:=aT Tryz.f56
noncomputable def Y7:Nat->Code:=lpOf Tryz.f56
theorem ZC:aN (aO Tryz.f56)=true:=kr
theorem Y5:FN 56 Tryz.f56 [] ([]) Y7 JG false [.tmp 10,.tmp 11]:=fN 1 Tryz.func56 ZC
noncomputable def cX:SC:=aT Tryz.f59
noncomputable def xG:Nat->Code:=lpOf Tryz.f59
theorem Q7:aN (aO Tryz.f59)=true:=kr
theorem cP:FN 59 Tryz.f59 (W32 (W32 (W16 (W2 (W1 [1002,0,0,0,0,0,0,0,0,0,0,0,0,0,0,0,0,0,0,0,0,0,1002]))))) Bz20 xG cX false (Tryz.f59.results.toList):=fN 0 Tryz.func59 Q7
noncomputable def tY:SC:=a7 Tryz.f59 0
theorem uT:ST xG 0 tY:=sT Q7
noncomputable def aDZ:SC:=aT Tryz.f60
noncomputable def D8:Nat->Code:=lpOf Tryz.f60
theorem aAT:aN (aO Tryz.f60)=true:=kr
theorem aKN:FN 60 Tryz.f60 [] Bz23 D8 aDZ false (Tryz.f60.results.toList):=fN 0 Tryz.func60 aAT
noncomputable def AM:SC:=a7 Tryz.f60 0
theorem AC:ST D8 0 AM:=sT aAT
noncomputable def UA:SC:=aT Tryz.f61
noncomputable def jN:Nat->Code:=lpOf Tryz.f61
theorem CM:aN (aO Tryz.f61)=true:=kr
theorem aFo:FN 61 Tryz.f61 (W32 (W4 (W1 [1002]))) Bz6 jN UA true (Tryz.f61.results.toList):=fN 0 Tryz.func61 CM
noncomputable def rM:SC:=a7 Tryz.f61 0
theorem s5:ST jN 0 rM:=sT CM
noncomputable def mX:SC:=a7 Tryz.f61 1
theorem mC:ST jN 1 mX:=sT CM
noncomputable def PL:SC:=aT Tryz.f62
noncomputable def aC0:Nat->Code:=lpOf Tryz.f62
theorem aCO:aN (aO Tryz.f62)=true:=kr
theorem aDo:FN 62 Tryz.f62 [] ([]) aC0 PL false [.tmp 4]:=fN 0 Tryz.func62 aCO
noncomputable def PC:SC:=aT Tryz.f63
noncomputable def sL:Nat->Code:=lpOf Tryz.f63
theorem ML:aN (aO Tryz.f63)=true:=kr
theorem aC1:FN 63 Tryz.f63 [0,0,0,2] Bz26 sL PC false [.tmp 2]:=fN 2 Tryz.func63 ML
noncomputable def pM:SC:=a7 Tryz.f63 0
theorem qT:ST sL 0 pM:=sT ML
noncomputable def MN:SC:=aT Tryz.f64
noncomputable def aBa:Nat->Code:=lpOf Tryz.f64
theorem aBC:aN (aO Tryz.f64)=true:=kr
theorem aBI:FN 64 Tryz.f64 [] ([]) aBa MN false [.tmp 2]:=fN 1 Tryz.func64 aBC
noncomputable def m3:SC:=aT Tryz.f67
noncomputable def hM:Nat->Code:=lpOf Tryz.f67
theorem tX:aN (aO Tryz.f67)=true:=kr
theorem PZ:FN 67 Tryz.f67 [] Bz29 hM m3 false [.tmp 2]:=fN 1 Tryz.func67 tX
noncomputable def fU:SC:=a7 Tryz.f67 0
theorem s7:ST hM 0 fU:=sT tX
noncomputable def dY:SC:=aT Tryz.f68
noncomputable def BH:Nat->Code:=lpOf Tryz.f68
theorem B1:aN (aO Tryz.f68)=true:=kr
theorem rE:FN 68 Tryz.f68 [] ([]) BH dY false [.tmp 4]:=fN 1 Tryz.func68 B1
noncomputable def c9:SC:=aT Tryz.f69
noncomputable def vP:Nat->Code:=lpOf Tryz.f69
theorem vS:aN (aO Tryz.f69)=true:=kr
theorem mK:FN 69 Tryz.f69 [] ([]) vP c9 false [.tmp 4]:=fN 1 Tryz.func69 vS
noncomputable def MV:SC:=aT Tryz.f70
noncomputable def aAs:Nat->Code:=lpOf Tryz.f70
theorem aBv:aN (aO Tryz.f70)=true:=kr
theorem aA7:FN 70 Tryz.f70 [] ([]) aAs MV false [.tmp 2]:=fN 1 Tryz.func70 aBv
noncomputable def H1:SC:=aT Tryz.f71
noncomputable def NO:Nat->Code:=lpOf Tryz.f71
theorem aBk:aN (aO Tryz.f71)=true:=kr
theorem OD:FN 71 Tryz.f71 [] Bz30 NO H1 false [.tmp 6]:=fN 1 Tryz.func71 aBk
noncomputable def tP:SC:=a7 Tryz.f71 0
theorem r5:ST NO 0 tP:=sT aBk
noncomputable def PX:SC:=aT Tryz.f72
noncomputable def zF:Nat->Code:=lpOf Tryz.f72
theorem L3:aN (aO Tryz.f72)=true:=kr
theorem aCS:FN 72 Tryz.f72 [] Bz47 zF PX false [.tmp 2]:=fN 2 Tryz.func72 L3
noncomputable def pU:SC:=a7 Tryz.f72 0
theorem qZ:ST zF 0 pU:=sT L3
noncomputable def aBz:SC:=aT Tryz.f73
noncomputable def tW:Nat->Code:=lpOf Tryz.f73
theorem KW:aN (aO Tryz.f73)=true:=kr
theorem aIH:FN 73 Tryz.f73 [] Bz21 tW aBz false (Tryz.f73.results.toList):=fN 2 Tryz.func73 KW
noncomputable def wP:SC:=a7 Tryz.f73 0
theorem wU:ST tW 0 wP:=sT KW
noncomputable def FB:SC:=a7 Tryz.f73 1
theorem IY:ST tW 1 FB:=sT KW
noncomputable def rR:SC:=aT Tryz.f74
noncomputable def aAy:Nat->Code:=lpOf Tryz.f74
theorem aAN:aN (aO Tryz.f74)=true:=kr
theorem xQ:FN 74 Tryz.f74 [] ([]) aAy rR false [.tmp 4,.tmp 5]:=fN 1 Tryz.func74 aAN
noncomputable def lD:SC:=aT Tryz.f75
noncomputable def ZE:Nat->Code:=lpOf Tryz.f75
theorem ZP:aN (aO Tryz.f75)=true:=kr
theorem oF:FN 75 Tryz.f75 [] ([]) ZE lD false [.tmp 6,.tmp 7]:=fN 1 Tryz.func75 ZP
noncomputable def RD:SC:=aT Tryz.f76
noncomputable def N6:Nat->Code:=lpOf Tryz.f76
theorem aB8:aN (aO Tryz.f76)=true:=kr
theorem aCg:FN 76 Tryz.f76 [] Bz14 N6 RD false [.tmp 4]:=fN 1 Tryz.func76 aB8
noncomputable def AK:SC:=a7 Tryz.f76 0
theorem zA:ST N6 0 AK:=sT aB8
noncomputable def aBL:SC:=aT Tryz.f77
noncomputable def aI2:Nat->Code:=lpOf Tryz.f77
theorem aIW:aN (aO Tryz.f77)=true:=kr
theorem aIk:FN 77 Tryz.f77 [] ([]) aI2 aBL false [.tmp 2]:=fN 1 Tryz.func77 aIW
noncomputable def RR:SC:=aT Tryz.f78
noncomputable def CQ:Nat->Code:=lpOf Tryz.f78
theorem P3:aN (aO Tryz.f78)=true:=kr
theorem aFu:FN 78 Tryz.f78 [] Bz53 CQ RR false [.tmp 4]:=fN 1 Tryz.func78 P3
noncomputable def mP:SC:=a7 Tryz.f78 0
theorem mD:ST CQ 0 mP:=sT P3
noncomputable def PK:SC:=aT Tryz.f79
noncomputable def aC7:Nat->Code:=lpOf Tryz.f79
theorem aCz:aN (aO Tryz.f79)=true:=kr
theorem aC5:FN 79 Tryz.f79 [] ([]) aC7 PK false [.tmp 4,.tmp 5]:=fN 1 Tryz.func79 aCz
noncomputable def s9:SC:=aT Tryz.f80
noncomputable def UO:Nat->Code:=lpOf Tryz.f80
theorem TC:aN (aO Tryz.f80)=true:=kr
theorem B0:FN 80 Tryz.f80 [] ([]) UO s9 false [.tmp 3]:=fN 0 Tryz.func80 TC
noncomputable def BV:SC:=aT Tryz.f83
noncomputable def QK:Nat->Code:=lpOf Tryz.f83
theorem QN:aN (aO Tryz.f83)=true:=kr
theorem QR:FN 83 Tryz.f83 [] ([]) QK BV false [.tmp 4]:=fN 0 Tryz.func83 QN
noncomputable def iS:SC:=aT Tryz.f84
noncomputable def iC:Nat->Code:=lpOf Tryz.f84
theorem lZ:aN (aO Tryz.f84)=true:=kr
theorem mA:FN 84 Tryz.f84 [] Bz48 iC iS false [.tmp 4]:=fN 1 Tryz.func84 lZ
noncomputable def d6:SC:=a7 Tryz.f84 0
theorem fF:ST iC 0 d6:=sT lZ
noncomputable def OL:SC:=aT Tryz.f85
noncomputable def oY:Nat->Code:=lpOf Tryz.f85
theorem XO:aN (aO Tryz.f85)=true:=kr
theorem WL:FN 85 Tryz.f85 (W16 (W8 (W4 [1002]))) Bz13 oY OL true (Tryz.f85.results.toList):=fN 2 Tryz.func85 XO
noncomputable def rA:SC:=a7 Tryz.f85 0
theorem qA:ST oY 0 rA:=sT XO
noncomputable def QZ:SC:=aT Tryz.f87
noncomputable def aFx:Nat->Code:=lpOf Tryz.f87
theorem aFg:aN (aO Tryz.f87)=true:=kr
theorem aFe:FN 87 Tryz.f87 [] ([]) aFx QZ false [.tmp 4]:=fN 0 Tryz.func87 aFg
noncomputable def M6:SC:=aT Tryz.f89
noncomputable def aIS:Nat->Code:=lpOf Tryz.f89
theorem aH9:aN (aO Tryz.f89)=true:=kr
theorem X3:FN 89 Tryz.f89 [] ([]) aIS M6 false (Tryz.f89.results.toList):=fN 0 Tryz.func89 aH9
noncomputable def XC:SC:=aT Tryz.f92
noncomputable def kG:Nat->Code:=lpOf Tryz.f92
theorem wT:aN (aO Tryz.f92)=true:=kr
theorem aHz:FN 92 Tryz.f92 [] Bz4 kG XC false [.tmp 2]:=fN 2 Tryz.func92 wT
noncomputable def CU:SC:=a7 Tryz.f92 0
theorem HE:ST kG 0 CU:=sT wT
noncomputable def CH:SC:=a7 Tryz.f92 1
theorem G0:ST kG 1 CH:=sT wT
noncomputable def CE:SC:=a7 Tryz.f92 2
theorem E6:ST kG 2 CE:=sT wT
noncomputable def B4:SC:=aT Tryz.f93
noncomputable def QH:Nat->Code:=lpOf Tryz.f93
theorem QF:aN (aO Tryz.f93)=true:=kr
theorem QC:FN 93 Tryz.f93 [] ([]) QH B4 false [.tmp 9]:=fN 0 Tryz.func93 QF
noncomputable def t7:SC:=aT Tryz.f94
noncomputable def iQ:Nat->Code:=lpOf Tryz.f94
theorem rP:aN (aO Tryz.f94)=true:=kr
theorem AF:FN 94 Tryz.f94 (W16 (W2 [2])) Bz2 iQ t7 false [.tmp 10,.tmp 11]:=fN 1 Tryz.func94 rP
noncomputable def lF:SC:=a7 Tryz.f94 0
theorem lM:ST iQ 0 lF:=sT rP
noncomputable def pG:SC:=a7 Tryz.f94 1
theorem rB:ST iQ 1 pG:=sT rP
noncomputable def xC:SC:=a7 Tryz.f94 2
theorem CA:ST iQ 2 xC:=sT rP
noncomputable def B7:SC:=aT Tryz.f95
noncomputable def QD:Nat->Code:=lpOf Tryz.f95
theorem QM:aN (aO Tryz.f95)=true:=kr
theorem QI:FN 95 Tryz.f95 [] ([]) QD B7 false [.tmp 6]:=fN 0 Tryz.func95 QM
noncomputable def pV:SC:=aT Tryz.f99
noncomputable def GI:Nat->Code:=lpOf Tryz.f99
theorem GW:aN (aO Tryz.f99)=true:=kr
theorem ZM:FN 99 Tryz.f99 [] ([]) GI pV false [.tmp 2]:=fN 1 Tryz.func99 GW
noncomputable def lE:SC:=aT Tryz.f100
noncomputable def yV:Nat->Code:=lpOf Tryz.f100
theorem yR:aN (aO Tryz.f100)=true:=kr
theorem QQ:FN 100 Tryz.f100 [] ([]) yV lE false [.tmp 2]:=fN 1 Tryz.func100 yR
noncomputable def aEU:SC:=aT Tryz.f101
noncomputable def aKB:Nat->Code:=lpOf Tryz.f101
theorem aJ1:aN (aO Tryz.f101)=true:=kr
theorem aK2:FN 101 Tryz.f101 [] ([]) aKB aEU false [.tmp 4]:=fN 1 Tryz.func101 aJ1
noncomputable def X0:SC:=aT Tryz.f102
noncomputable def mQ:Nat->Code:=lpOf Tryz.f102
theorem GM:aN (aO Tryz.f102)=true:=kr
theorem aGJ:FN 102 Tryz.f102 [] Bz28 mQ X0 false [.tmp 2]:=fN 2 Tryz.func102 GM
noncomputable def CL:SC:=a7 Tryz.f102 0
theorem FY:ST mQ 0 CL:=sT GM
noncomputable def uD:SC:=a7 Tryz.f102 1
theorem u6:ST mQ 1 uD:=sT GM
noncomputable def WX:SC:=aT Tryz.f103
noncomputable def GX:Nat->Code:=lpOf Tryz.f103
theorem SZ:aN (aO Tryz.f103)=true:=kr
theorem aHc:FN 103 Tryz.f103 [] Bz60 GX WX false [.tmp 4]:=fN 1 Tryz.func103 SZ
noncomputable def CZ:SC:=a7 Tryz.f103 0
theorem FV:ST GX 0 CZ:=sT SZ
noncomputable def AO:SC:=aT Tryz.f104
noncomputable def aFY:Nat->Code:=lpOf Tryz.f104
theorem aHD:aN (aO Tryz.f104)=true:=kr
theorem F5:FN 104 Tryz.f104 [] ([]) aFY AO false [.tmp 4]:=fN 1 Tryz.func104 aHD
noncomputable def AV:SC:=aT Tryz.f105
noncomputable def dU:Nat->Code:=lpOf Tryz.f105
theorem qI:aN (aO Tryz.f105)=true:=kr
theorem FR:FN 105 Tryz.f105 [] Bz0 dU AV false [.tmp 2,.tmp 3]:=fN 1 Tryz.func105 qI
noncomputable def CP:SC:=a7 Tryz.f105 0
theorem GA:ST dU 0 CP:=sT qI
noncomputable def uH:SC:=a7 Tryz.f105 1
theorem uQ:ST dU 1 uH:=sT qI
noncomputable def oI:SC:=a7 Tryz.f105 2
theorem nK:ST dU 2 oI:=sT qI
noncomputable def oO:SC:=a7 Tryz.f105 3
theorem nV:ST dU 3 oO:=sT qI
noncomputable def r7:SC:=aT Tryz.f106
noncomputable def aB3:Nat->Code:=lpOf Tryz.f106
theorem aAr:aN (aO Tryz.f106)=true:=kr
theorem wE:FN 106 Tryz.f106 [] ([]) aB3 r7 false [.tmp 4]:=fN 1 Tryz.func106 aAr
noncomputable def GN:SC:=aT Tryz.f107
noncomputable def WC:Nat->Code:=lpOf Tryz.f107
theorem V9:aN (aO Tryz.f107)=true:=kr
theorem VW:FN 107 Tryz.f107 [] ([]) WC GN false [.tmp 7]:=fN 0 Tryz.func107 V9
noncomputable def aBX:SC:=aT Tryz.f122
noncomputable def oS:Nat->Code:=lpOf Tryz.f122
theorem J9:aN (aO Tryz.f122)=true:=kr
theorem aII:FN 122 Tryz.f122 [] Bz10 oS aBX false (Tryz.f122.results.toList):=fN 0 Tryz.func122 J9
noncomputable def FD:SC:=a7 Tryz.f122 0
theorem IU:ST oS 0 FD:=sT J9
noncomputable def HM:SC:=a7 Tryz.f122 1
theorem IT:ST oS 1 HM:=sT J9
noncomputable def n9:SC:=aT Tryz.f126
noncomputable def mE:Nat->Code:=lpOf Tryz.f126
theorem DL:aN (aO Tryz.f126)=true:=kr
theorem tA:FN 126 Tryz.f126 (W8 (W2 [2])) Bz9 mE n9 false [.tmp 9]:=fN 0 Tryz.func126 DL
noncomputable def cG:SC:=a7 Tryz.f126 0
theorem cB:ST mE 0 cG:=sT DL
noncomputable def RX:SC:=aT Tryz.f127
noncomputable def C6:Nat->Code:=lpOf Tryz.f127
theorem O7:aN (aO Tryz.f127)=true:=kr
theorem aFy:FN 127 Tryz.f127 [0,0,0,2] Bz38 C6 RX false [.tmp 2]:=fN 1 Tryz.func127 O7
noncomputable def zP:SC:=a7 Tryz.f127 0
theorem DK:ST C6 0 zP:=sT O7
noncomputable def YK:SC:=aT Tryz.f128
noncomputable def RH:Nat->Code:=lpOf Tryz.f128
theorem aDH:aN (aO Tryz.f128)=true:=kr
theorem aEd:FN 128 Tryz.f128 [] Bz14 RH YK false [.tmp 4]:=fN 1 Tryz.func128 aDH
noncomputable def DV:SC:=a7 Tryz.f128 0
theorem CY:ST RH 0 DV:=sT aDH
noncomputable def XK:SC:=aT Tryz.f129
noncomputable def rG:Nat->Code:=lpOf Tryz.f129
theorem EX:aN (aO Tryz.f129)=true:=kr
theorem aHj:FN 129 Tryz.f129 [] Bz34 rG XK false [.tmp 2]:=fN 2 Tryz.func129 EX
noncomputable def C4:SC:=a7 Tryz.f129 0
theorem GQ:ST rG 0 C4:=sT EX
noncomputable def CG:SC:=a7 Tryz.f129 1
theorem GE:ST rG 1 CG:=sT EX
noncomputable def WR:SC:=aT Tryz.f130
noncomputable def qO:Nat->Code:=lpOf Tryz.f130
theorem F1:aN (aO Tryz.f130)=true:=kr
theorem aHk:FN 130 Tryz.f130 [] Bz17 qO WR false [.tmp 6]:=fN 2 Tryz.func130 F1
noncomputable def CX:SC:=a7 Tryz.f130 0
theorem EZ:ST qO 0 CX:=sT F1
noncomputable def CD:SC:=a7 Tryz.f130 1
theorem F0:ST qO 1 CD:=sT F1
noncomputable def lP:SC:=aT Tryz.f131
noncomputable def aHw:Nat->Code:=lpOf Tryz.f131
theorem aHL:aN (aO Tryz.f131)=true:=kr
theorem mL:FN 131 Tryz.f131 [] (Z2 (U1 (Z2 (Z1 (U2 (Z32 (Z16 (Z8 ([]))))))))) aHw lP false [.tmp 6]:=fN 1 Tryz.func131 aHL
noncomputable def UK:SC:=aT Tryz.f132
noncomputable def CW:Nat->Code:=lpOf Tryz.f132
theorem PV:aN (aO Tryz.f132)=true:=kr
theorem aFp:FN 132 Tryz.f132 [] Bz45 CW UK false [.tmp 4]:=fN 2 Tryz.func132 PV
noncomputable def zN:SC:=a7 Tryz.f132 0
theorem DF:ST CW 0 zN:=sT PV
noncomputable def aBm:SC:=aT Tryz.f133
noncomputable def oZ:Nat->Code:=lpOf Tryz.f133
theorem KL:aN (aO Tryz.f133)=true:=kr
theorem aIP:FN 133 Tryz.f133 [] Bz19 oZ aBm false []:=fN 0 Tryz.func133 KL
noncomputable def x5:SC:=a7 Tryz.f133 0
theorem yG:ST oZ 0 x5:=sT KL
noncomputable def qX:SC:=a7 Tryz.f133 1
theorem pQ:ST oZ 1 qX:=sT KL
noncomputable def QY:SC:=aT Tryz.f134
noncomputable def CK:Nat->Code:=lpOf Tryz.f134
theorem PI:aN (aO Tryz.f134)=true:=kr
theorem aFh:FN 134 Tryz.f134 [] Bz54 CK QY false [.tmp 4]:=fN 1 Tryz.func134 PI
noncomputable def zO:SC:=a7 Tryz.f134 0
theorem DB:ST CK 0 zO:=sT PI
noncomputable def QT:SC:=aT Tryz.f135
noncomputable def oM:Nat->Code:=lpOf Tryz.f135
theorem CC:aN (aO Tryz.f135)=true:=kr
theorem aFs:FN 135 Tryz.f135 [] Bz22 oM QT false [.tmp 10]:=fN 2 Tryz.func135 CC
noncomputable def z8:SC:=a7 Tryz.f135 0
theorem DQ:ST oM 0 z8:=sT CC
noncomputable def mZ:SC:=a7 Tryz.f135 1
theorem mF:ST oM 1 mZ:=sT CC
noncomputable def uE:SC:=aT Tryz.f136
noncomputable def y4:Nat->Code:=lpOf Tryz.f136
theorem MG:aN (aO Tryz.f136)=true:=kr
theorem AB:FN 136 Tryz.f136 [] Bz55 y4 uE false [.tmp 2]:=fN 1 Tryz.func136 MG
noncomputable def lL:SC:=a7 Tryz.f136 0
theorem lA:ST y4 0 lL:=sT MG
noncomputable def Z9:SC:=aT Tryz.f147
noncomputable def aM5:Nat->Code:=lpOf Tryz.f147
theorem aMJ:aN (aO Tryz.f147)=true:=kr
theorem aEg:FN 147 Tryz.f147 [] ([]) aM5 Z9 false [.tmp 6]:=fN 1 Tryz.func147 aMJ
noncomputable def aHR:SC:=aT Tryz.f148
noncomputable def aMX:Nat->Code:=lpOf Tryz.f148
theorem aL0:aN (aO Tryz.f148)=true:=kr
theorem aLE:FN 148 Tryz.f148 [] ([]) aMX aHR false [.tmp 4]:=fN 1 Tryz.func148 aL0
noncomputable def oH:SC:=aT Tryz.f149
noncomputable def eY:Nat->Code:=lpOf Tryz.f149
theorem nC:aN (aO Tryz.f149)=true:=kr
theorem A8:FN 149 Tryz.f149 [] Bz39 eY oH false []:=fN 0 Tryz.func149 nC
noncomputable def eL:SC:=a7 Tryz.f149 0
theorem fX:ST eY 0 eL:=sT nC
noncomputable def XT:SC:=aT Tryz.f150
noncomputable def kJ:Nat->Code:=lpOf Tryz.f150
theorem xO:aN (aO Tryz.f150)=true:=kr
theorem aHG:FN 150 Tryz.f150 [] Bz7 kJ XT false [.tmp 8]:=fN 2 Tryz.func150 xO
noncomputable def CI:SC:=a7 Tryz.f150 0
theorem E9:ST kJ 0 CI:=sT xO
noncomputable def C0:SC:=a7 Tryz.f150 1
theorem GF:ST kJ 1 C0:=sT xO
noncomputable def C1:SC:=a7 Tryz.f150 2
theorem FW:ST kJ 2 C1:=sT xO
noncomputable def aGX:SC:=aT Tryz.f151
noncomputable def aMx:Nat->Code:=lpOf Tryz.f151
theorem aMR:aN (aO Tryz.f151)=true:=kr
theorem aLH:FN 151 Tryz.f151 [] ([]) aMx aGX false [.tmp 6]:=fN 1 Tryz.func151 aMR
noncomputable def OE:SC:=aT Tryz.f152
noncomputable def tE:Nat->Code:=lpOf Tryz.f152
theorem KM:aN (aO Tryz.f152)=true:=kr
theorem X7:FN 152 Tryz.f152 [] Bz18 tE OE false [.tmp 6]:=fN 1 Tryz.func152 KM
noncomputable def yC:SC:=a7 Tryz.f152 0
theorem xX:ST tE 0 yC:=sT KM
noncomputable def wN:SC:=a7 Tryz.f152 1
theorem wV:ST tE 1 wN:=sT KM
noncomputable def XX:SC:=aT Tryz.f156
noncomputable def HQ:Nat->Code:=lpOf Tryz.f156
theorem RN:aN (aO Tryz.f156)=true:=kr
theorem aGA:FN 156 Tryz.f156 [] Bz49 HQ XX false [.tmp 4]:=fN 1 Tryz.func156 RN
noncomputable def uA:SC:=a7 Tryz.f156 0
theorem uO:ST HQ 0 uA:=sT RN
noncomputable def OT:SC:=aT Tryz.f157
noncomputable def aCY:Nat->Code:=lpOf Tryz.f157
theorem aCF:aN (aO Tryz.f157)=true:=kr
theorem aCT:FN 157 Tryz.f157 [] (Z2 (U2 (Z4 (U4 (Z32 (Z32 (Z2 (Z1 ([]))))))))) aCY OT false [.tmp 8]:=fN 2 Tryz.func157 aCF
end
end Ev
end Go.Proofs.YthlkcebdfbjdoaaGreat
