/-
  Each function's code as an equation. Written by a program.
-/
import Derived.Test.YthlkcebdfbjdoaaGreatEnv
set_option linter.unusedSimpArgs false
set_option linter.unusedVariables false
set_option linter.unusedSectionVars false
set_option maxRecDepth 100000
namespace Go.Proofs.YthlkcebdfbjdoaaGreat
namespace Ev
abbrev FN(f:Nat)(fn:Func)(th:List Nat)(lv:List Bool)(lp:Nat->Code)(S:SC)(e:Bool)(rs:List ResultVar):Prop:=∀(L n:Nat) (args:List A) (h:H),aA env L (n+1) f args h=cT env (aA env L n) L h.length th lv lp S (args++List.replicate (fn.ntmps-args.length) (.d .undef)) h (kFin env.P h.length e rs)
theorem fN (mode : Nat) {f : Nat} {fn : Func} {e : Bool} {th : List Nat} {lv : List Bool} {rs : List ResultVar} (hf : env.P.funcs[f]? = some fn) (hd : aL (aO fn) = true) (hp : (env.prim f).isNone = true := by kernel_rfl) (hb : fn.body.isSome = true := by kernel_rfl) (hn : (fn.name == "runtime.NumGoroutine") = false := by kernel_rfl) (hh : env.hint f = ⟨mode, e, th, lv⟩ := by kernel_rfl) (hr : fn.results.toList = rs := by kernel_rfl) : FN f fn th lv (lpOf fn) (aT fn) e rs := fun _ _ _ _ => IM hp hf hb hn hd hh hr
abbrev ST(lp:Nat->Code)(i:Nat)(S:SC):Prop:=∀(R:Type) (call:aX) (L nf n:Nat) (thaw:List Nat) (live m:List Bool) (s:List A) (h:H) (k:KE R),aS env call L nf thaw live (lp i) m (n+1) s h k=cT env call L nf thaw live lp S s h (X4 env call L nf thaw live (lp i) m n k)
theorem sT{fn:Func}{i:Nat}(hd:aL (aO fn)=true)(hi:((bQ (aO fn))[i]?).isSome=true:=by kernel_rfl):ST (lpOf fn) i (a7 fn i):=fun _ _ _ _ _ _ _ _ _ _ _=>aC0 hd hi
section
variable{R:Type}{call:aX}{L nf n:Nat}{thaw:List Nat}{live m:List Bool}{s args:List A}{h:H}{k:KE R}
noncomputable def iQ:SC:=aT Tryz.f5
noncomputable def uB:Nat->Code:=lpOf Tryz.f5
theorem EH:aL (aO Tryz.f5)=true:=kr
theorem j2:FN 5 Tryz.f5 [] Bz20 uB iQ false [.tmp 2]:=fN 1 Tryz.func5 EH
noncomputable def jL:SC:=a7 Tryz.f5 0
theorem jQ:ST uB 0 jL:=sT EH
noncomputable def lL:SC:=aT Tryz.f9
noncomputable def iZ:Nat->Code:=lpOf Tryz.f9
theorem sL:aL (aO Tryz.f9)=true:=kr
theorem nH:FN 9 Tryz.f9 [] Bz1 iZ lL true [.tmp 4,.tmp 5]:=fN 3 Tryz.func9 sL
noncomputable def qO:SC:=a7 Tryz.f9 0
theorem rT:ST iZ 0 qO:=sT sL
noncomputable def qW:SC:=a7 Tryz.f9 1
theorem sH:ST iZ 1 qW:=sT sL
noncomputable def yG:SC:=a7 Tryz.f9 2
theorem DC:ST iZ 2 yG:=sT sL
noncomputable def lM:SC:=aT Tryz.f10
noncomputable def iX:Nat->Code:=lpOf Tryz.f10
theorem sV:aL (aO Tryz.f10)=true:=kr
theorem m7:FN 10 Tryz.f10 [] Bz10 iX lM false [.tmp 4,.tmp 5]:=fN 2 Tryz.func10 sV
noncomputable def qJ:SC:=a7 Tryz.f10 0
theorem sD:ST iX 0 qJ:=sT sV
noncomputable def rF:SC:=a7 Tryz.f10 1
theorem sA:ST iX 1 rF:=sT sV
noncomputable def qK:SC:=a7 Tryz.f10 2
theorem rO:ST iX 2 qK:=sT sV
noncomputable def nP:SC:=aT Tryz.f12
noncomputable def zH:Nat->Code:=lpOf Tryz.f12
theorem K8:aL (aO Tryz.f12)=true:=kr
theorem qQ:FN 12 Tryz.f12 [] Bz48 zH nP false [.tmp 4]:=fN 1 Tryz.func12 K8
noncomputable def oN:SC:=a7 Tryz.f12 0
theorem qD:ST zH 0 oN:=sT K8
noncomputable def NR:SC:=aT Tryz.f14
noncomputable def xR:Nat->Code:=lpOf Tryz.f14
theorem J3:aL (aO Tryz.f14)=true:=kr
theorem aCX:FN 14 Tryz.f14 [0,0,0,2] Bz51 xR NR true [.tmp 2]:=fN 3 Tryz.func14 J3
noncomputable def oH:SC:=a7 Tryz.f14 0
theorem qF:ST xR 0 oH:=sT J3
noncomputable def zU:SC:=aT Tryz.f15
noncomputable def gG:Nat->Code:=lpOf Tryz.f15
theorem oC:aL (aO Tryz.f15)=true:=kr
theorem PB:FN 15 Tryz.f15 [] Bz15 gG zU true [.tmp 2]:=fN 3 Tryz.func15 oC
noncomputable def nT:SC:=a7 Tryz.f15 0
theorem rY:ST gG 0 nT:=sT oC
noncomputable def fW:SC:=a7 Tryz.f15 1
theorem gO:ST gG 1 fW:=sT oC
noncomputable def eR:SC:=aT Tryz.f19
noncomputable def NM:Nat->Code:=lpOf Tryz.f19
theorem OL:aL (aO Tryz.f19)=true:=kr
theorem fV:FN 19 Tryz.f19 [] ([]) NM eR false (Tryz.f19.results.toList):=fN 2 Tryz.func19 OL
noncomputable def kR:SC:=aT Tryz.f20
noncomputable def t7:Nat->Code:=lpOf Tryz.f20
theorem E1:aL (aO Tryz.f20)=true:=kr
theorem mR:FN 20 Tryz.f20 [] Bz30 t7 kR false [.tmp 6,.tmp 7]:=fN 1 Tryz.func20 E1
noncomputable def lO:SC:=a7 Tryz.f20 0
theorem nV:ST t7 0 lO:=sT E1
noncomputable def kY:SC:=aT Tryz.f21
noncomputable def uD:Nat->Code:=lpOf Tryz.f21
theorem EZ:aL (aO Tryz.f21)=true:=kr
theorem mU:FN 21 Tryz.f21 [] Bz31 uD kY false [.tmp 6,.tmp 7]:=fN 1 Tryz.func21 EZ
noncomputable def lP:SC:=a7 Tryz.f21 0
theorem nE:ST uD 0 lP:=sT EZ
noncomputable def XJ:SC:=aT Tryz.f22
noncomputable def aQo:Nat->Code:=lpOf Tryz.f22
theorem aQh:aL (aO Tryz.f22)=true:=kr
theorem aBu:FN 22 Tryz.f22 [] ([]) aQo XJ false [.tmp 4]:=fN 1 Tryz.func22 aQh
noncomputable def JX:SC:=aT Tryz.f23
noncomputable def aAK:Nat->Code:=lpOf Tryz.f23
theorem aBZ:aL (aO Tryz.f23)=true:=kr
theorem aBM:FN 23 Tryz.f23 [] ([]) aAK JX false [.tmp 4]:=fN 1 Tryz.func23 aBZ
noncomputable def MG:SC:=aT Tryz.f27
noncomputable def aIE:Nat->Code:=lpOf Tryz.f27
theorem aHU:aL (aO Tryz.f27)=true:=kr
theorem XF:FN 27 Tryz.f27 [] ([]) aIE MG true [.tmp 2]:=fN 2 Tryz.func27 aHU
noncomputable def jC:SC:=aT Tryz.f28
noncomputable def aI2:Nat->Code:=lpOf Tryz.f28
theorem aIn:aL (aO Tryz.f28)=true:=kr
theorem jM:FN 28 Tryz.f28 [] ([]) aI2 jC false (Tryz.f28.results.toList):=fN 0 Tryz.func28 aIn
noncomputable def UL:SC:=aT Tryz.f29
noncomputable def aG0:Nat->Code:=lpOf Tryz.f29
theorem aHv:aL (aO Tryz.f29)=true:=kr
theorem aHr:FN 29 Tryz.f29 [] ([]) aG0 UL false [.tmp 2]:=fN 0 Tryz.func29 aHv
noncomputable def eJ:SC:=aT Tryz.f30
noncomputable def iO:Nat->Code:=lpOf Tryz.f30
theorem qB:aL (aO Tryz.f30)=true:=kr
theorem fF:FN 30 Tryz.f30 [] Bz7 iO eJ false [.tmp 2]:=fN 1 Tryz.func30 qB
noncomputable def gN:SC:=a7 Tryz.f30 0
theorem iI:ST iO 0 gN:=sT qB
noncomputable def gL:SC:=a7 Tryz.f30 1
theorem iL:ST iO 1 gL:=sT qB
noncomputable def RA:SC:=aT Tryz.f31
noncomputable def iT:Nat->Code:=lpOf Tryz.f31
theorem sM:aL (aO Tryz.f31)=true:=kr
theorem aEU:FN 31 Tryz.f31 (W8 (W4 [2002])) Bz4 iT RA false [.tmp 4]:=fN 2 Tryz.func31 sM
noncomputable def y3:SC:=a7 Tryz.f31 0
theorem C1:ST iT 0 y3:=sT sM
noncomputable def x2:SC:=a7 Tryz.f31 1
theorem CD:ST iT 1 x2:=sT sM
noncomputable def xQ:SC:=a7 Tryz.f31 2
theorem CL:ST iT 2 xQ:=sT sM
theorem zS{L n:Nat}{args:List A}{h:H}:aA env L (n+1) 32 args h=AG 66 34 args h:=by
 have:env.prim 32=some (AG 66 34):=kr;simp only[aA,this]
noncomputable def iD:SC:=aT Tryz.f33
noncomputable def pA:Nat->Code:=lpOf Tryz.f33
theorem oO:aL (aO Tryz.f33)=true:=kr
theorem pB:FN 33 Tryz.f33 [] ([]) pA iD true [.tmp 2]:=fN 0 Tryz.func33 oO
noncomputable def VX:SC:=aT Tryz.f34
noncomputable def aG8:Nat->Code:=lpOf Tryz.f34
theorem aHs:aL (aO Tryz.f34)=true:=kr
noncomputable def eG:SC:=aT Tryz.f35
noncomputable def qC:Nat->Code:=lpOf Tryz.f35
theorem zX:aL (aO Tryz.f35)=true:=kr
theorem fG:FN 35 Tryz.f35 [] Bz57 qC eG false [.tmp 2]:=fN 1 Tryz.func35 zX
noncomputable def kE:SC:=a7 Tryz.f35 0
theorem lH:ST qC 0 kE:=sT zX
noncomputable def BB:SC:=aT Tryz.f36
noncomputable def zN:Nat->Code:=lpOf Tryz.f36
theorem J9:aL (aO Tryz.f36)=true:=kr
theorem LD:FN 36 Tryz.f36 [] Bz62 zN BB false [.tmp 2]:=fN 2 Tryz.func36 J9
noncomputable def vP:SC:=a7 Tryz.f36 0
theorem zY:ST zN 0 vP:=sT J9
noncomputable def qH:SC:=aT Tryz.f37
noncomputable def gW:Nat->Code:=lpOf Tryz.f37
theorem oT:aL (aO Tryz.f37)=true:=kr
theorem zJ:FN 37 Tryz.f37 [] Bz38 gW qH false [.tmp 2]:=fN 2 Tryz.func37 oT
noncomputable def nB:SC:=a7 Tryz.f37 0
theorem rM:ST gW 0 nB:=sT oT
noncomputable def fR:SC:=a7 Tryz.f37 1
theorem gY:ST gW 1 fR:=sT oT
noncomputable def SB:SC:=aT Tryz.f38
noncomputable def kN:Nat->Code:=lpOf Tryz.f38
theorem BD:aL (aO Tryz.f38)=true:=kr
theorem aE1:FN 38 Tryz.f38 [] Bz11 kN SB false [.tmp 4]:=fN 2 Tryz.func38 BD
noncomputable def rE:SC:=a7 Tryz.f38 0
theorem r7:ST kN 0 rE:=sT BD
noncomputable def zL:SC:=a7 Tryz.f38 1
theorem CQ:ST kN 1 zL:=sT BD
noncomputable def FC:SC:=aT Tryz.f39
noncomputable def MW:Nat->Code:=lpOf Tryz.f39
theorem Y6:aL (aO Tryz.f39)=true:=kr
theorem MF:FN 39 Tryz.f39 [] Bz58 MW FC false [.tmp 4]:=fN 0 Tryz.func39 Y6
noncomputable def HC:SC:=a7 Tryz.f39 0
theorem LM:ST MW 0 HC:=sT Y6
noncomputable def NS:SC:=aT Tryz.f40
noncomputable def aCR:Nat->Code:=lpOf Tryz.f40
theorem aEi:aL (aO Tryz.f40)=true:=kr
theorem aDW:FN 40 Tryz.f40 [] ([]) aCR NS false [.tmp 2]:=fN 1 Tryz.func40 aEi
noncomputable def aLN:SC:=aT Tryz.f41
noncomputable def aPn:Nat->Code:=lpOf Tryz.f41
theorem aPl:aL (aO Tryz.f41)=true:=kr
theorem aP3:FN 41 Tryz.f41 [] ([]) aPn aLN false [.tmp 4]:=fN 1 Tryz.func41 aPl
noncomputable def WC:SC:=aT Tryz.f42
noncomputable def aG5:Nat->Code:=lpOf Tryz.f42
theorem aHp:aL (aO Tryz.f42)=true:=kr
theorem aHA:FN 42 Tryz.f42 [] ([]) aG5 WC false [.tmp 4]:=fN 1 Tryz.func42 aHp
noncomputable def BI:SC:=aT Tryz.f44
noncomputable def aDa:Nat->Code:=lpOf Tryz.f44
theorem aC9:aL (aO Tryz.f44)=true:=kr
theorem LC:FN 44 Tryz.f44 [] ([]) aDa BI false [.tmp 4,.tmp 5]:=fN 1 Tryz.func44 aC9
theorem tZ{L n:Nat}{args:List A}{h:H}:aA env L (n+1) 45 args h=HF 34 args h:=by
 have:env.prim 45=some (HF 34):=kr;simp only[aA,this]
noncomputable def gX:SC:=aT Tryz.f46
noncomputable def aBv:Nat->Code:=lpOf Tryz.f46
theorem aBb:aL (aO Tryz.f46)=true:=kr
theorem iY:FN 46 Tryz.f46 [] ([]) aBv gX false [.tmp 6,.tmp 7]:=fN 1 Tryz.func46 aBb
noncomputable def lG:SC:=aT Tryz.f47
noncomputable def vY:Nat->Code:=lpOf Tryz.f47
theorem wA:aL (aO Tryz.f47)=true:=kr
theorem vW:FN 47 Tryz.f47 [] ([]) vY lG false [.tmp 4]:=fN 1 Tryz.func47 wA
noncomputable def eF:SC:=aT Tryz.f48
noncomputable def aHi:Nat->Code:=lpOf Tryz.f48
theorem aHm:aL (aO Tryz.f48)=true:=kr
theorem eM:FN 48 Tryz.f48 (W32 (W32 (W16 (W8 (W4 (W1 [1002])))))) ([]) aHi eF false (Tryz.f48.results.toList):=fN 0 Tryz.func48 aHm
noncomputable def nX:SC:=aT Tryz.f49
noncomputable def aDT:Nat->Code:=lpOf Tryz.f49
theorem aB4:aL (aO Tryz.f49)=true:=kr
theorem qS:FN 49 Tryz.f49 [] ([]) aDT nX false [.tmp 4]:=fN 0 Tryz.func49 aB4
noncomputable def PD:SC:=aT Tryz.f50
noncomputable def aKw:Nat->Code:=lpOf Tryz.f50
theorem aKx:aL (aO Tryz.f50)=true:=kr
theorem ZR:FN 50 Tryz.f50 [] ([]) aKw PD false (Tryz.f50.results.toList):=fN 0 Tryz.func50 aKx
noncomputable def nW:SC:=aT Tryz.f51
noncomputable def ME:Nat->Code:=lpOf Tryz.f51
theorem MX:aL (aO Tryz.f51)=true:=kr
theorem uY:FN 51 Tryz.f51 [] ([]) ME nW false (Tryz.f51.results.toList):=fN 2 Tryz.func51 MX
noncomputable def qN:SC:=aT Tryz.f52
noncomputable def aBS:Nat->Code:=lpOf Tryz.f52
theorem aBN:aL (aO Tryz.f52)=true:=kr
theorem vT:FN 52 Tryz.f52 [] ([]) aBS qN false [.tmp 4]:=fN 1 Tryz.func52 aBN
noncomputable def KN:SC:=aT Tryz.f53
noncomputable def aMm:Nat->Code:=lpOf Tryz.f53
theorem aMp:aL (aO Tryz.f53)=true:=kr
theorem O4:FN 53 Tryz.f53 [] ([]) aMm KN false [.tmp 4]:=fN 1 Tryz.func53 aMp
noncomputable def JV:SC:=aT Tryz.f54
noncomputable def aAJ:Nat->Code:=lpOf Tryz.f54
theorem aBt:aL (aO Tryz.f54)=true:=kr
theorem aBP:FN 54 Tryz.f54 [] ([]) aAJ JV false [.tmp 4]:=fN 1 Tryz.func54 aBt
noncomputable def tJ:SC:=aT Tryz.f55
noncomputable def y6:Nat->Code:=lpOf Tryz.f55
theorem J1:aL (aO Tryz.f55)=true:=kr
theorem xT:FN 55 Tryz.f55 [] Bz33 y6 tJ false [.tmp 4]:=fN 1 Tryz.func55 J1
noncomputable def wI:SC:=a7 Tryz.f55 0
theorem z8:ST y6 0 wI:=sT J1
noncomputable def K5:SC:=aT Tryz.f56
noncomputable def aBd:Nat->Code:=lpOf Tryz.f56
theorem aBh:aL (aO Tryz.f56)=true:=kr
theorem aAY:FN 56 Tryz.f56 [] ([]) aBd K5 false [.tmp 10,.tmp 11]:=fN 1 Tryz.func56 aBh
noncomputable def c8:SC:=aT Tryz.f59
noncomputable def zF:Nat->Code:=lpOf Tryz.f59
theorem WZ:aL (aO Tryz.f59)=true:=kr
theorem cU:FN 59 Tryz.f59 (W32 (W32 (W16 (W2 (W1 [1002,0,0,0,0,0,0,0,0,0,0,0,0,0,0,0,0,0,0,0,0,0,1002]))))) Bz19 zF c8 false (Tryz.f59.results.toList):=fN 0 Tryz.func59 WZ
noncomputable def vH:SC:=a7 Tryz.f59 0
theorem wF:ST zF 0 vH:=sT WZ
noncomputable def aGW:SC:=aT Tryz.f60
noncomputable def FE:Nat->Code:=lpOf Tryz.f60
theorem aDZ:aL (aO Tryz.f60)=true:=kr
theorem aMa:FN 60 Tryz.f60 [] Bz23 FE aGW false (Tryz.f60.results.toList):=fN 0 Tryz.func60 aDZ
noncomputable def BZ:SC:=a7 Tryz.f60 0
theorem A7:ST FE 0 BZ:=sT aDZ
noncomputable def UY:SC:=aT Tryz.f61
noncomputable def jW:Nat->Code:=lpOf Tryz.f61
theorem EA:aL (aO Tryz.f61)=true:=kr
theorem aHt:FN 61 Tryz.f61 (W32 (W4 (W1 [1002]))) Bz5 jW UY true (Tryz.f61.results.toList):=fN 0 Tryz.func61 EA
noncomputable def tH:SC:=a7 Tryz.f61 0
theorem t6:ST jW 0 tH:=sT EA
noncomputable def nU:SC:=a7 Tryz.f61 1
theorem mX:ST jW 1 nU:=sT EA
noncomputable def SH:SC:=aT Tryz.f62
noncomputable def aEs:Nat->Code:=lpOf Tryz.f62
theorem aEE:aL (aO Tryz.f62)=true:=kr
theorem aEK:FN 62 Tryz.f62 [] ([]) aEs SH false [.tmp 4]:=fN 0 Tryz.func62 aEE
noncomputable def R2:SC:=aT Tryz.f63
noncomputable def sQ:Nat->Code:=lpOf Tryz.f63
theorem OF:aL (aO Tryz.f63)=true:=kr
theorem aEt:FN 63 Tryz.f63 [0,0,0,2] Bz27 sQ R2 false [.tmp 2]:=fN 2 Tryz.func63 OF
noncomputable def rC:SC:=a7 Tryz.f63 0
theorem r6:ST sQ 0 rC:=sT OF
noncomputable def NF:SC:=aT Tryz.f64
noncomputable def aCu:Nat->Code:=lpOf Tryz.f64
theorem aDv:aL (aO Tryz.f64)=true:=kr
theorem aCZ:FN 64 Tryz.f64 [] ([]) aCu NF false [.tmp 2]:=fN 1 Tryz.func64 aDv
noncomputable def H5:SC:=aT Tryz.f67
noncomputable def pH:Nat->Code:=lpOf Tryz.f67
theorem RC:aL (aO Tryz.f67)=true:=kr
noncomputable def s6:SC:=a7 Tryz.f67 0
noncomputable def mZ:SC:=aT Tryz.f68
noncomputable def WM:Nat->Code:=lpOf Tryz.f68
theorem W7:aL (aO Tryz.f68)=true:=kr
noncomputable def j9:SC:=aT Tryz.f69
noncomputable def OW:Nat->Code:=lpOf Tryz.f69
theorem OY:aL (aO Tryz.f69)=true:=kr
noncomputable def N8:SC:=aT Tryz.f70
noncomputable def aDm:Nat->Code:=lpOf Tryz.f70
theorem aDP:aL (aO Tryz.f70)=true:=kr
theorem aCg:FN 70 Tryz.f70 [] ([]) aDm N8 false [.tmp 2]:=fN 1 Tryz.func70 aDP
noncomputable def KQ:SC:=aT Tryz.f71
noncomputable def P8:Nat->Code:=lpOf Tryz.f71
theorem aDU:aL (aO Tryz.f71)=true:=kr
theorem O9:FN 71 Tryz.f71 [] Bz35 P8 KQ false [.tmp 6]:=fN 1 Tryz.func71 aDU
noncomputable def uZ:SC:=a7 Tryz.f71 0
theorem tB:ST P8 0 uZ:=sT aDU
noncomputable def R4:SC:=aT Tryz.f72
noncomputable def A9:Nat->Code:=lpOf Tryz.f72
theorem N1:aL (aO Tryz.f72)=true:=kr
theorem aEN:FN 72 Tryz.f72 [] Bz54 A9 R4 false [.tmp 2]:=fN 2 Tryz.func72 N1
noncomputable def rA:SC:=a7 Tryz.f72 0
theorem rQ:ST A9 0 rA:=sT N1
noncomputable def aCP:SC:=aT Tryz.f73
noncomputable def u4:Nat->Code:=lpOf Tryz.f73
theorem MH:aL (aO Tryz.f73)=true:=kr
theorem aKn:FN 73 Tryz.f73 [] Bz21 u4 aCP false (Tryz.f73.results.toList):=fN 2 Tryz.func73 MH
noncomputable def xO:SC:=a7 Tryz.f73 0
theorem xW:ST u4 0 xO:=sT MH
noncomputable def HJ:SC:=a7 Tryz.f73 1
theorem KF:ST u4 1 HJ:=sT MH
noncomputable def sW:SC:=aT Tryz.f74
noncomputable def aB1:Nat->Code:=lpOf Tryz.f74
theorem aCo:aL (aO Tryz.f74)=true:=kr
theorem yN:FN 74 Tryz.f74 [] ([]) aB1 sW false [.tmp 4,.tmp 5]:=fN 1 Tryz.func74 aCo
noncomputable def lQ:SC:=aT Tryz.f75
noncomputable def aAL:Nat->Code:=lpOf Tryz.f75
theorem aA4:aL (aO Tryz.f75)=true:=kr
theorem oZ:FN 75 Tryz.f75 [] ([]) aAL lQ false [.tmp 6,.tmp 7]:=fN 1 Tryz.func75 aA4
noncomputable def UJ:SC:=aT Tryz.f76
noncomputable def QL:Nat->Code:=lpOf Tryz.f76
theorem aEa:aL (aO Tryz.f76)=true:=kr
theorem aD9:FN 76 Tryz.f76 [] Bz34 QL UJ false [.tmp 4]:=fN 1 Tryz.func76 aEa
noncomputable def BL:SC:=a7 Tryz.f76 0
theorem AQ:ST QL 0 BL:=sT aEa
noncomputable def aCr:SC:=aT Tryz.f77
noncomputable def aKQ:Nat->Code:=lpOf Tryz.f77
theorem aKh:aL (aO Tryz.f77)=true:=kr
theorem aKy:FN 77 Tryz.f77 [] ([]) aKQ aCr false [.tmp 2]:=fN 1 Tryz.func77 aKh
noncomputable def UE:SC:=aT Tryz.f78
noncomputable def D2:Nat->Code:=lpOf Tryz.f78
theorem RH:aL (aO Tryz.f78)=true:=kr
theorem aHj:FN 78 Tryz.f78 [] Bz59 D2 UE false [.tmp 4]:=fN 1 Tryz.func78 RH
noncomputable def nM:SC:=a7 Tryz.f78 0
theorem m2:ST D2 0 nM:=sT RH
noncomputable def RL:SC:=aT Tryz.f79
noncomputable def aEP:Nat->Code:=lpOf Tryz.f79
theorem aEo:aL (aO Tryz.f79)=true:=kr
theorem aE0:FN 79 Tryz.f79 [] ([]) aEP RL false [.tmp 4,.tmp 5]:=fN 1 Tryz.func79 aEo
noncomputable def t8:SC:=aT Tryz.f80
noncomputable def UR:Nat->Code:=lpOf Tryz.f80
theorem VU:aL (aO Tryz.f80)=true:=kr
theorem C9:FN 80 Tryz.f80 [] ([]) UR t8 false [.tmp 3]:=fN 0 Tryz.func80 VU
noncomputable def DF:SC:=aT Tryz.f83
noncomputable def SM:Nat->Code:=lpOf Tryz.f83
theorem SX:aL (aO Tryz.f83)=true:=kr
theorem S7:FN 83 Tryz.f83 [] ([]) SM DF false [.tmp 4]:=fN 0 Tryz.func83 SX
noncomputable def iW:SC:=aT Tryz.f84
noncomputable def iH:Nat->Code:=lpOf Tryz.f84
theorem mO:aL (aO Tryz.f84)=true:=kr
theorem mP:FN 84 Tryz.f84 [] Bz55 iH iW false [.tmp 4]:=fN 1 Tryz.func84 mO
noncomputable def eC:SC:=a7 Tryz.f84 0
theorem fK:ST iH 0 eC:=sT mO
noncomputable def QW:SC:=aT Tryz.f85
noncomputable def pU:Nat->Code:=lpOf Tryz.f85
theorem Z0:aL (aO Tryz.f85)=true:=kr
theorem aAj:FN 85 Tryz.f85 (W16 (W8 (W4 [1002]))) Bz13 pU QW true (Tryz.f85.results.toList):=fN 2 Tryz.func85 Z0
noncomputable def rV:SC:=a7 Tryz.f85 0
theorem qR:ST pU 0 rV:=sT Z0
noncomputable def U0:SC:=aT Tryz.f87
noncomputable def aG3:Nat->Code:=lpOf Tryz.f87
theorem aG7:aL (aO Tryz.f87)=true:=kr
theorem aHy:FN 87 Tryz.f87 [] ([]) aG3 U0 false [.tmp 4]:=fN 0 Tryz.func87 aG7
noncomputable def QE:SC:=aT Tryz.f89
noncomputable def aKW:Nat->Code:=lpOf Tryz.f89
theorem aKv:aL (aO Tryz.f89)=true:=kr
theorem Y7:FN 89 Tryz.f89 [] ([]) aKW QE false (Tryz.f89.results.toList):=fN 0 Tryz.func89 aKv
noncomputable def RP:SC:=aT Tryz.f90
noncomputable def nS:Nat->Code:=lpOf Tryz.f90
theorem BG:aL (aO Tryz.f90)=true:=kr
theorem aEL:FN 90 Tryz.f90 [] Bz29 nS RP false (Tryz.f90.results.toList):=fN 2 Tryz.func90 BG
noncomputable def rG:SC:=a7 Tryz.f90 0
theorem sG:ST nS 0 rG:=sT BG
noncomputable def yJ:SC:=a7 Tryz.f90 1
theorem C4:ST nS 1 yJ:=sT BG
noncomputable def NT:SC:=aT Tryz.f91
noncomputable def aD7:Nat->Code:=lpOf Tryz.f91
theorem aDV:aL (aO Tryz.f91)=true:=kr
theorem aCn:FN 91 Tryz.f91 [] ([]) aD7 NT false [.tmp 4]:=fN 1 Tryz.func91 aDV
noncomputable def ZV:SC:=aT Tryz.f92
noncomputable def lD:Nat->Code:=lpOf Tryz.f92
theorem yZ:aL (aO Tryz.f92)=true:=kr
theorem aIB:FN 92 Tryz.f92 [] Bz3 lD ZV false [.tmp 2]:=fN 2 Tryz.func92 yZ
noncomputable def D3:SC:=a7 Tryz.f92 0
theorem HE:ST lD 0 D3:=sT yZ
noncomputable def EG:SC:=a7 Tryz.f92 1
theorem H1:ST lD 1 EG:=sT yZ
noncomputable def DL:SC:=a7 Tryz.f92 2
theorem IT:ST lD 2 DL:=sT yZ
noncomputable def CC:SC:=aT Tryz.f93
noncomputable def SY:Nat->Code:=lpOf Tryz.f93
theorem S3:aL (aO Tryz.f93)=true:=kr
theorem S6:FN 93 Tryz.f93 [] ([]) SY CC false [.tmp 9]:=fN 0 Tryz.func93 S3
noncomputable def vI:SC:=aT Tryz.f94
noncomputable def iP:Nat->Code:=lpOf Tryz.f94
theorem tA:aL (aO Tryz.f94)=true:=kr
theorem A2:FN 94 Tryz.f94 (W16 (W2 [2])) Bz2 iP vI false [.tmp 10,.tmp 11]:=fN 1 Tryz.func94 tA
noncomputable def lT:SC:=a7 Tryz.f94 0
theorem lW:ST iP 0 lT:=sT tA
noncomputable def rB:SC:=a7 Tryz.f94 1
theorem r9:ST iP 1 rB:=sT tA
noncomputable def yF:SC:=a7 Tryz.f94 2
theorem CW:ST iP 2 yF:=sT tA
noncomputable def CY:SC:=aT Tryz.f95
noncomputable def SW:Nat->Code:=lpOf Tryz.f95
theorem SP:aL (aO Tryz.f95)=true:=kr
theorem SU:FN 95 Tryz.f95 [] ([]) SW CY false [.tmp 6]:=fN 0 Tryz.func95 SP
noncomputable def JC:SC:=aT Tryz.f99
noncomputable def aAQ:Nat->Code:=lpOf Tryz.f99
theorem aBR:aL (aO Tryz.f99)=true:=kr
noncomputable def CR:SC:=aT Tryz.f100
noncomputable def SQ:Nat->Code:=lpOf Tryz.f100
theorem SS:aL (aO Tryz.f100)=true:=kr
noncomputable def aGC:SC:=aT Tryz.f101
noncomputable def aNf:Nat->Code:=lpOf Tryz.f101
theorem aMt:aL (aO Tryz.f101)=true:=kr
theorem aMn:FN 101 Tryz.f101 [] ([]) aNf aGC false [.tmp 4]:=fN 1 Tryz.func101 aMt
noncomputable def ZC:SC:=aT Tryz.f102
noncomputable def m5:Nat->Code:=lpOf Tryz.f102
theorem HN:aL (aO Tryz.f102)=true:=kr
theorem aIN:FN 102 Tryz.f102 [] Bz32 m5 ZC false [.tmp 2]:=fN 2 Tryz.func102 HN
noncomputable def D4:SC:=a7 Tryz.f102 0
theorem HV:ST m5 0 D4:=sT HN
noncomputable def vD:SC:=a7 Tryz.f102 1
theorem wB:ST m5 1 vD:=sT HN
noncomputable def aAo:SC:=aT Tryz.f103
noncomputable def IJ:Nat->Code:=lpOf Tryz.f103
theorem WJ:aL (aO Tryz.f103)=true:=kr
theorem aJy:FN 103 Tryz.f103 [] Bz65 IJ aAo false [.tmp 4]:=fN 1 Tryz.func103 WJ
noncomputable def ED:SC:=a7 Tryz.f103 0
theorem HY:ST IJ 0 ED:=sT WJ
noncomputable def BQ:SC:=aT Tryz.f104
noncomputable def aJm:Nat->Code:=lpOf Tryz.f104
theorem aHS:aL (aO Tryz.f104)=true:=kr
theorem IG:FN 104 Tryz.f104 [] ([]) aJm BQ false [.tmp 4]:=fN 1 Tryz.func104 aHS
noncomputable def BN:SC:=aT Tryz.f105
noncomputable def dY:Nat->Code:=lpOf Tryz.f105
theorem rK:aL (aO Tryz.f105)=true:=kr
theorem IU:FN 105 Tryz.f105 [] Bz0 dY BN false [.tmp 2,.tmp 3]:=fN 1 Tryz.func105 rK
noncomputable def DJ:SC:=a7 Tryz.f105 0
theorem GP:ST dY 0 DJ:=sT rK
noncomputable def vJ:SC:=a7 Tryz.f105 1
theorem vX:ST dY 1 vJ:=sT rK
noncomputable def pM:SC:=a7 Tryz.f105 2
theorem oE:ST dY 2 pM:=sT rK
noncomputable def pO:SC:=a7 Tryz.f105 3
theorem o9:ST dY 3 pO:=sT rK
noncomputable def s7:SC:=aT Tryz.f106
noncomputable def aD4:Nat->Code:=lpOf Tryz.f106
theorem aEb:aL (aO Tryz.f106)=true:=kr
theorem yH:FN 106 Tryz.f106 [] ([]) aD4 s7 false [.tmp 4]:=fN 1 Tryz.func106 aEb
noncomputable def HU:SC:=aT Tryz.f107
noncomputable def YG:Nat->Code:=lpOf Tryz.f107
theorem YP:aL (aO Tryz.f107)=true:=kr
theorem YD:FN 107 Tryz.f107 [] ([]) YG HU false [.tmp 7]:=fN 0 Tryz.func107 YP
noncomputable def aDQ:SC:=aT Tryz.f122
noncomputable def pS:Nat->Code:=lpOf Tryz.f122
theorem MT:aL (aO Tryz.f122)=true:=kr
theorem aKH:FN 122 Tryz.f122 [] Bz9 pS aDQ false (Tryz.f122.results.toList):=fN 0 Tryz.func122 MT
noncomputable def IR:SC:=a7 Tryz.f122 0
theorem L3:ST pS 0 IR:=sT MT
noncomputable def GN:SC:=a7 Tryz.f122 1
theorem JQ:ST pS 1 GN:=sT MT
noncomputable def RO:SC:=aT Tryz.f123
noncomputable def nD:Nat->Code:=lpOf Tryz.f123
theorem BJ:aL (aO Tryz.f123)=true:=kr
theorem aEM:FN 123 Tryz.f123 [] Bz26 nD RO false [.tmp 2,.tmp 3]:=fN 2 Tryz.func123 BJ
noncomputable def qT:SC:=a7 Tryz.f123 0
theorem sJ:ST nD 0 qT:=sT BJ
noncomputable def zD:SC:=a7 Tryz.f123 1
theorem CI:ST nD 1 zD:=sT BJ
noncomputable def M0:SC:=aT Tryz.f124
noncomputable def aCa:Nat->Code:=lpOf Tryz.f124
theorem aCS:aL (aO Tryz.f124)=true:=kr
theorem aEj:FN 124 Tryz.f124 [] ([]) aCa M0 false [.tmp 4]:=fN 1 Tryz.func124 aCS
noncomputable def aF9:SC:=aT Tryz.f125
noncomputable def QB:Nat->Code:=lpOf Tryz.f125
theorem aB6:aL (aO Tryz.f125)=true:=kr
theorem aME:FN 125 Tryz.f125 [] Bz49 QB aF9 false [.tmp 6]:=fN 1 Tryz.func125 aB6
noncomputable def MZ:SC:=a7 Tryz.f125 0
theorem M5:ST QB 0 MZ:=sT aB6
noncomputable def oB:SC:=aT Tryz.f126
noncomputable def m3:Nat->Code:=lpOf Tryz.f126
theorem E7:aL (aO Tryz.f126)=true:=kr
theorem tY:FN 126 Tryz.f126 (W8 (W2 [2])) Bz8 m3 oB false [.tmp 9]:=fN 0 Tryz.func126 E7
noncomputable def cI:SC:=a7 Tryz.f126 0
theorem cE:ST m3 0 cI:=sT E7
noncomputable def V7:SC:=aT Tryz.f127
noncomputable def DU:Nat->Code:=lpOf Tryz.f127
theorem RW:aL (aO Tryz.f127)=true:=kr
theorem aHk:FN 127 Tryz.f127 [0,0,0,2] Bz43 DU V7 false [.tmp 2]:=fN 1 Tryz.func127 RW
noncomputable def AK:SC:=a7 Tryz.f127 0
theorem EN:ST DU 0 AK:=sT RW
noncomputable def aA0:SC:=aT Tryz.f128
noncomputable def UI:Nat->Code:=lpOf Tryz.f128
theorem aFJ:aL (aO Tryz.f128)=true:=kr
theorem aGo:FN 128 Tryz.f128 [] Bz34 UI aA0 false [.tmp 4]:=fN 1 Tryz.func128 aFJ
noncomputable def FU:SC:=a7 Tryz.f128 0
theorem D6:ST UI 0 FU:=sT aFJ
noncomputable def ZX:SC:=aT Tryz.f129
noncomputable def rJ:Nat->Code:=lpOf Tryz.f129
theorem GI:aL (aO Tryz.f129)=true:=kr
theorem aHY:FN 129 Tryz.f129 [] Bz39 rJ ZX false [.tmp 2]:=fN 2 Tryz.func129 GI
noncomputable def D1:SC:=a7 Tryz.f129 0
theorem G6:ST rJ 0 D1:=sT GI
noncomputable def DV:SC:=a7 Tryz.f129 1
theorem HI:ST rJ 1 DV:=sT GI
noncomputable def ZN:SC:=aT Tryz.f130
noncomputable def sK:Nat->Code:=lpOf Tryz.f130
theorem GM:aL (aO Tryz.f130)=true:=kr
theorem aIf:FN 130 Tryz.f130 [] Bz16 sK ZN false [.tmp 6]:=fN 2 Tryz.func130 GM
noncomputable def EF:SC:=a7 Tryz.f130 0
theorem H2:ST sK 0 EF:=sT GM
noncomputable def D5:SC:=a7 Tryz.f130 1
theorem IZ:ST sK 1 D5:=sT GM
noncomputable def mC:SC:=aT Tryz.f131
noncomputable def aJB:Nat->Code:=lpOf Tryz.f131
theorem aIj:aL (aO Tryz.f131)=true:=kr
theorem m9:FN 131 Tryz.f131 [] (Z2 (U1 (Z2 (Z1 (U2 (Z32 (Z16 (Z8 ([]))))))))) aJB mC false [.tmp 6]:=fN 1 Tryz.func131 aIj
noncomputable def WB:SC:=aT Tryz.f132
noncomputable def D9:Nat->Code:=lpOf Tryz.f132
theorem RG:aL (aO Tryz.f132)=true:=kr
theorem aHc:FN 132 Tryz.f132 [] Bz52 D9 WB false [.tmp 4]:=fN 2 Tryz.func132 RG
noncomputable def A6:SC:=a7 Tryz.f132 0
theorem EK:ST D9 0 A6:=sT RG
noncomputable def aDo:SC:=aT Tryz.f133
noncomputable def pR:Nat->Code:=lpOf Tryz.f133
theorem MO:aL (aO Tryz.f133)=true:=kr
theorem aKp:FN 133 Tryz.f133 [] Bz18 pR aDo false []:=fN 0 Tryz.func133 MO
noncomputable def yC:SC:=a7 Tryz.f133 0
theorem yL:ST pR 0 yC:=sT MO
noncomputable def sB:SC:=a7 Tryz.f133 1
theorem qV:ST pR 1 sB:=sT MO
noncomputable def VP:SC:=aT Tryz.f134
noncomputable def D7:Nat->Code:=lpOf Tryz.f134
theorem SI:aL (aO Tryz.f134)=true:=kr
theorem aHd:FN 134 Tryz.f134 [] Bz60 D7 VP false [.tmp 4]:=fN 1 Tryz.func134 SI
noncomputable def AL:SC:=a7 Tryz.f134 0
theorem EW:ST D7 0 AL:=sT SI
noncomputable def VQ:SC:=aT Tryz.f135
noncomputable def pK:Nat->Code:=lpOf Tryz.f135
theorem DS:aL (aO Tryz.f135)=true:=kr
theorem aHq:FN 135 Tryz.f135 [] Bz22 pK VQ false [.tmp 10]:=fN 2 Tryz.func135 DS
noncomputable def AZ:SC:=a7 Tryz.f135 0
theorem EQ:ST pK 0 AZ:=sT DS
noncomputable def m6:SC:=a7 Tryz.f135 1
theorem mY:ST pK 1 m6:=sT DS
noncomputable def vC:SC:=aT Tryz.f136
noncomputable def BF:Nat->Code:=lpOf Tryz.f136
theorem OP:aL (aO Tryz.f136)=true:=kr
theorem AJ:FN 136 Tryz.f136 [] Bz61 BF vC false [.tmp 2]:=fN 1 Tryz.func136 OP
noncomputable def lU:SC:=a7 Tryz.f136 0
theorem lX:ST BF 0 lU:=sT OP
noncomputable def W5:SC:=aT Tryz.f145
noncomputable def lK:Nat->Code:=lpOf Tryz.f145
theorem DZ:aL (aO Tryz.f145)=true:=kr
theorem aHb:FN 145 Tryz.f145 [] Bz12 lK W5 false [.tmp 4,.tmp 5]:=fN 2 Tryz.func145 DZ
noncomputable def sN:SC:=a7 Tryz.f145 0
theorem uC:ST lK 0 sN:=sT DZ
noncomputable def nR:SC:=a7 Tryz.f145 1
theorem mV:ST lK 1 nR:=sT DZ
noncomputable def N5:SC:=aT Tryz.f146
noncomputable def yD:Nat->Code:=lpOf Tryz.f146
theorem KB:aL (aO Tryz.f146)=true:=kr
theorem aCC:FN 146 Tryz.f146 [] (U1 (Z1 (U4 (Z16 ([]))))) yD N5 false [.tmp 2,.tmp 3]:=fN 1 Tryz.func146 KB
noncomputable def vV:SC:=a7 Tryz.f146 0
theorem AA:ST yD 0 vV:=sT KB
noncomputable def aBB:SC:=aT Tryz.f147
noncomputable def aOy:Nat->Code:=lpOf Tryz.f147
theorem aNy:aL (aO Tryz.f147)=true:=kr
theorem aFH:FN 147 Tryz.f147 [] ([]) aOy aBB false [.tmp 6]:=fN 1 Tryz.func147 aNy
noncomputable def aJr:SC:=aT Tryz.f148
noncomputable def aN3:Nat->Code:=lpOf Tryz.f148
theorem aOJ:aL (aO Tryz.f148)=true:=kr
theorem aOA:FN 148 Tryz.f148 [] ([]) aN3 aJr false [.tmp 4]:=fN 1 Tryz.func148 aOJ
noncomputable def pL:SC:=aT Tryz.f149
noncomputable def fA:Nat->Code:=lpOf Tryz.f149
theorem nY:aL (aO Tryz.f149)=true:=kr
theorem CN:FN 149 Tryz.f149 [] Bz44 fA pL false []:=fN 0 Tryz.func149 nY
noncomputable def eQ:SC:=a7 Tryz.f149 0
theorem gD:ST fA 0 eQ:=sT nY
noncomputable def ZQ:SC:=aT Tryz.f150
noncomputable def kS:Nat->Code:=lpOf Tryz.f150
theorem xS:aL (aO Tryz.f150)=true:=kr
theorem aH5:FN 150 Tryz.f150 [] Bz6 kS ZQ false [.tmp 8]:=fN 2 Tryz.func150 xS
noncomputable def DY:SC:=a7 Tryz.f150 0
theorem IV:ST kS 0 DY:=sT xS
noncomputable def EC:SC:=a7 Tryz.f150 1
theorem HW:ST kS 1 EC:=sT xS
noncomputable def DK:SC:=a7 Tryz.f150 2
theorem HM:ST kS 2 DK:=sT xS
noncomputable def aIK:SC:=aT Tryz.f151
noncomputable def aNt:Nat->Code:=lpOf Tryz.f151
theorem aO8:aL (aO Tryz.f151)=true:=kr
theorem aOU:FN 151 Tryz.f151 [] ([]) aNt aIK false [.tmp 6]:=fN 1 Tryz.func151 aO8
noncomputable def P4:SC:=aT Tryz.f152
noncomputable def uJ:Nat->Code:=lpOf Tryz.f152
theorem MS:aL (aO Tryz.f152)=true:=kr
theorem aAw:FN 152 Tryz.f152 [] Bz17 uJ P4 false [.tmp 6]:=fN 1 Tryz.func152 MS
noncomputable def x7:SC:=a7 Tryz.f152 0
theorem yU:ST uJ 0 x7:=sT MS
noncomputable def yP:SC:=a7 Tryz.f152 1
theorem y8:ST uJ 1 yP:=sT MS
noncomputable def FA:SC:=aT Tryz.f154
noncomputable def ML:Nat->Code:=lpOf Tryz.f154
theorem ZS:aL (aO Tryz.f154)=true:=kr
theorem L7:FN 154 Tryz.f154 [] Bz45 ML FA false [.tmp 8]:=fN 1 Tryz.func154 ZS
noncomputable def xV:SC:=a7 Tryz.f154 0
theorem yX:ST ML 0 xV:=sT ZS
noncomputable def aFw:SC:=aT Tryz.f155
noncomputable def aMV:Nat->Code:=lpOf Tryz.f155
theorem aMy:aL (aO Tryz.f155)=true:=kr
theorem aMe:FN 155 Tryz.f155 [] ([]) aMV aFw false [.tmp 2]:=fN 1 Tryz.func155 aMy
noncomputable def ZZ:SC:=aT Tryz.f156
noncomputable def IS:Nat->Code:=lpOf Tryz.f156
theorem UB:aL (aO Tryz.f156)=true:=kr
theorem aHX:FN 156 Tryz.f156 [] Bz56 IS ZZ false [.tmp 4]:=fN 1 Tryz.func156 UB
noncomputable def vN:SC:=a7 Tryz.f156 0
theorem wC:ST IS 0 vN:=sT UB
noncomputable def RR:SC:=aT Tryz.f157
noncomputable def aFd:Nat->Code:=lpOf Tryz.f157
theorem aE2:aL (aO Tryz.f157)=true:=kr
theorem aE6:FN 157 Tryz.f157 [] (Z2 (U2 (Z4 (U4 (Z32 (Z32 (Z2 (Z1 ([]))))))))) aFd RR false [.tmp 8]:=fN 2 Tryz.func157 aE2
end
end Ev
end Go.Proofs.YthlkcebdfbjdoaaGreat
