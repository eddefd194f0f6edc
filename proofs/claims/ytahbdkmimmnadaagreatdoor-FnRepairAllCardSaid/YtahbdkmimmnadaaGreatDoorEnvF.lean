/-
  Each function's code as an equation. Written by a program.
-/
import Derived.Test.YtahbdkmimmnadaaGreatDoorEnv
set_option linter.unusedSimpArgs false
set_option linter.unusedVariables false
set_option linter.unusedSectionVars false
set_option maxRecDepth 100000
namespace Go.Proofs.YtahbdkmimmnadaaGreatDoor
namespace Ev
abbrev FN(f:Nat)(fn:Func)(th:List Nat)(lv:List Bool)(lp:Nat->Code)(S:SC)(e:Bool)(rs:List ResultVar):Prop:=∀(L n:Nat) (args:List A) (h:H),aA env L (n+1) f args h=eJ env (aA env L n) L h.length th lv lp S (args++List.replicate (fn.ntmps-args.length) (.d .undef)) h (kFin env.P h.length e rs)
theorem fN (mode : Nat) {f : Nat} {fn : Func} {e : Bool} {th : List Nat} {lv : List Bool} {rs : List ResultVar} (hf : env.P.funcs[f]? = some fn) (hd : aM (aN fn) = true) (hp : (env.prim f).isNone = true := by kernel_rfl) (hb : fn.body.isSome = true := by kernel_rfl) (hn : (fn.name == "runtime.NumGoroutine") = false := by kernel_rfl) (hh : env.hint f = ⟨mode, e, th, lv⟩ := by kernel_rfl) (hr : fn.results.toList = rs := by kernel_rfl) : FN f fn th lv (lpOf fn) (aX fn) e rs := fun _ _ _ _ => aPs hp hf hb hn hd hh hr
abbrev ST(lp:Nat->Code)(i:Nat)(S:SC):Prop:=∀(R:Type) (call:aW) (L nf n:Nat) (thaw:List Nat) (live m:List Bool) (s:List A) (h:H) (k:KE R),aU env call L nf thaw live (lp i) m (n+1) s h k=eJ env call L nf thaw live lp S s h (YN env call L nf thaw live (lp i) m n k)
theorem sT{fn:Func}{i:Nat}(hd:aM (aN fn)=true)(hi:((bK (aN fn))[i]?).isSome=true:=by kernel_rfl):ST (lpOf fn) i (bD fn i):=fun _ _ _ _ _ _ _ _ _ _ _=>aJJ hd hi
section
variable{R:Type}{call:aW}{L nf n:Nat}{thaw:List Nat}{live m:List Bool}{s args:List A}{h:H}{k:KE R}
noncomputable def j1:SC:=aX Tryz.f4
noncomputable def aBZ:Nat->Code:=lpOf Tryz.f4
theorem aBV:aM (aN Tryz.f4)=true:=kr
theorem kN:FN 4 Tryz.f4 [] ([]) aBZ j1 false [.tmp 2]:=fN 1 Tryz.func4 aBV
noncomputable def jR:SC:=aX Tryz.f11
noncomputable def u7:Nat->Code:=lpOf Tryz.f11
theorem EW:aM (aN Tryz.f11)=true:=kr
theorem kR:FN 11 Tryz.f11 [] Bz30 u7 jR false [.tmp 6]:=fN 2 Tryz.func11 EW
noncomputable def mM:SC:=bD Tryz.f11 0
theorem nQ:ST u7 0 mM:=sT EW
noncomputable def jT:SC:=aX Tryz.f14
noncomputable def uZ:Nat->Code:=lpOf Tryz.f14
theorem EM:aM (aN Tryz.f14)=true:=kr
theorem kV:FN 14 Tryz.f14 (W4 (W2 (W1 [4]))) Bz19 uZ jT false [.tmp 6]:=fN 2 Tryz.func14 EM
noncomputable def mU:SC:=bD Tryz.f14 0
theorem nY:ST uZ 0 mU:=sT EM
noncomputable def pP:SC:=aX Tryz.f22
noncomputable def NK:Nat->Code:=lpOf Tryz.f22
theorem MJ:aM (aN Tryz.f22)=true:=kr
theorem wX:FN 22 Tryz.f22 [] ([]) NK pP false (Tryz.f22.results.toList):=fN 2 Tryz.func22 MJ
noncomputable def aDK:SC:=aX Tryz.f23
noncomputable def M4:Nat->Code:=lpOf Tryz.f23
theorem aAr:aM (aN Tryz.f23)=true:=kr
theorem aJG:FN 23 Tryz.f23 [] Bz63 M4 aDK false [.tmp 4]:=fN 1 Tryz.func23 aAr
noncomputable def JX:SC:=bD Tryz.f23 0
theorem L4:ST M4 0 JX:=sT aAr
noncomputable def uI:SC:=aX Tryz.f24
noncomputable def aBh:Nat->Code:=lpOf Tryz.f24
theorem aBR:aM (aN Tryz.f24)=true:=kr
theorem z5:FN 24 Tryz.f24 [] ([]) aBh uI false [.tmp 4]:=fN 1 Tryz.func24 aBR
noncomputable def s5:SC:=aX Tryz.f25
noncomputable def qM:Nat->Code:=lpOf Tryz.f25
theorem AT:aM (aN Tryz.f25)=true:=kr
theorem BG:FN 25 Tryz.f25 [] Bz46 qM s5 false [.tmp 2]:=fN 1 Tryz.func25 AT
noncomputable def pL:SC:=bD Tryz.f25 0
theorem tP:ST qM 0 pL:=sT AT
noncomputable def QT:SC:=aX Tryz.f26
noncomputable def aEs:Nat->Code:=lpOf Tryz.f26
theorem aEr:aM (aN Tryz.f26)=true:=kr
theorem aEk:FN 26 Tryz.f26 [] ([]) aEs QT false (Tryz.f26.results.toList):=fN 2 Tryz.func26 aEr
noncomputable def lS:SC:=aX Tryz.f29
noncomputable def PD:Nat->Code:=lpOf Tryz.f29
theorem O9:aM (aN Tryz.f29)=true:=kr
theorem pS:FN 29 Tryz.f29 [] ([]) PD lS false [.tmp 4,.tmp 5]:=fN 1 Tryz.func29 O9
noncomputable def lZ:SC:=aX Tryz.f30
noncomputable def PA:Nat->Code:=lpOf Tryz.f30
theorem PL:aM (aN Tryz.f30)=true:=kr
theorem pQ:FN 30 Tryz.f30 [] ([]) PA lZ false [.tmp 4,.tmp 5]:=fN 1 Tryz.func30 PL
noncomputable def fC:SC:=aX Tryz.f31
noncomputable def iW:Nat->Code:=lpOf Tryz.f31
theorem pK:aM (aN Tryz.f31)=true:=kr
theorem f5:FN 31 Tryz.f31 [] Bz6 iW fC false [.tmp 2]:=fN 1 Tryz.func31 pK
noncomputable def hZ:SC:=bD Tryz.f31 0
theorem iR:ST iW 0 hZ:=sT pK
noncomputable def hM:SC:=bD Tryz.f31 1
theorem iP:ST iW 1 hM:=sT pK
noncomputable def j3:SC:=aX Tryz.f55
noncomputable def rB:Nat->Code:=lpOf Tryz.f55
theorem BM:aM (aN Tryz.f55)=true:=kr
theorem lX:FN 55 Tryz.f55 [] Bz50 rB j3 false [.tmp 2]:=fN 1 Tryz.func55 BM
noncomputable def iU:SC:=bD Tryz.f55 0
theorem jJ:ST rB 0 iU:=sT BM
noncomputable def fH:SC:=aX Tryz.f56
noncomputable def pT:Nat->Code:=lpOf Tryz.f56
theorem y7:aM (aN Tryz.f56)=true:=kr
theorem f9:FN 56 Tryz.f56 [] Bz60 pT fH false [.tmp 2]:=fN 1 Tryz.func56 y7
noncomputable def j7:SC:=bD Tryz.f56 0
theorem lF:ST pT 0 j7:=sT y7
noncomputable def UV:SC:=aX Tryz.f57
noncomputable def aEZ:Nat->Code:=lpOf Tryz.f57
theorem aFM:aM (aN Tryz.f57)=true:=kr
theorem aED:FN 57 Tryz.f57 [] ([]) aEZ UV false (Tryz.f57.results.toList):=fN 2 Tryz.func57 aFM
noncomputable def t6:SC:=aX Tryz.f58
noncomputable def aBi:Nat->Code:=lpOf Tryz.f58
theorem aBH:aM (aN Tryz.f58)=true:=kr
theorem zY:FN 58 Tryz.f58 [] ([]) aBi t6 false [.tmp 4]:=fN 1 Tryz.func58 aBH
noncomputable def yG:SC:=aX Tryz.f62
noncomputable def aD1:Nat->Code:=lpOf Tryz.f62
theorem aEp:aM (aN Tryz.f62)=true:=kr
theorem CF:FN 62 Tryz.f62 [] ([]) aD1 yG false [.tmp 2]:=fN 1 Tryz.func62 aEp
theorem rQ{L n:Nat}{args:List A}{h:H}:aA env L (n+1) 63 args h=lM 3 args h:=by
 have:env.prim 63=some (lM 3):=kr;simp only[aA,this]
noncomputable def JT:SC:=aX Tryz.f70
noncomputable def aGD:Nat->Code:=lpOf Tryz.f70
theorem aGC:aM (aN Tryz.f70)=true:=kr
theorem RF:FN 70 Tryz.f70 [] ([]) aGD JT true [.tmp 2]:=fN 2 Tryz.func70 aGC
noncomputable def s8:SC:=aX Tryz.f71
noncomputable def aE7:Nat->Code:=lpOf Tryz.f71
theorem aFO:aM (aN Tryz.f71)=true:=kr
theorem xV:FN 71 Tryz.f71 [] ([]) aE7 s8 false (Tryz.f71.results.toList):=fN 0 Tryz.func71 aFO
noncomputable def nF:SC:=aX Tryz.f72
noncomputable def aAI:Nat->Code:=lpOf Tryz.f72
theorem aAK:aM (aN Tryz.f72)=true:=kr
theorem p8:FN 72 Tryz.f72 [] ([]) aAI nF false [.tmp 4]:=fN 0 Tryz.func72 aAK
noncomputable def pI:SC:=aX Tryz.f73
noncomputable def aFN:Nat->Code:=lpOf Tryz.f73
theorem aGz:aM (aN Tryz.f73)=true:=kr
theorem rJ:FN 73 Tryz.f73 [] ([]) aFN pI false (Tryz.f73.results.toList):=fN 0 Tryz.func73 aGz
noncomputable def O4:SC:=aX Tryz.f74
noncomputable def aBt:Nat->Code:=lpOf Tryz.f74
theorem aBW:aM (aN Tryz.f74)=true:=kr
theorem aCa:FN 74 Tryz.f74 [] ([]) aBt O4 false [.tmp 4]:=fN 0 Tryz.func74 aBW
noncomputable def dJ:SC:=aX Tryz.f75
noncomputable def cI:Nat->Code:=lpOf Tryz.f75
theorem fK:aM (aN Tryz.f75)=true:=kr
theorem fM:FN 75 Tryz.f75 [] Bz12 cI dJ false [.tmp 6,.tmp 7]:=fN 1 Tryz.func75 fK
noncomputable def bL:SC:=bD Tryz.f75 0
theorem bW:ST cI 0 bL:=sT fK
noncomputable def EX:SC:=aX Tryz.f76
noncomputable def TT:Nat->Code:=lpOf Tryz.f76
theorem TR:aM (aN Tryz.f76)=true:=kr
theorem UB:FN 76 Tryz.f76 [] ([]) TT EX false [.tmp 4]:=fN 1 Tryz.func76 TR
noncomputable def jP:SC:=aX Tryz.f77
noncomputable def oI:Nat->Code:=lpOf Tryz.f77
theorem E7:aM (aN Tryz.f77)=true:=kr
theorem kO:FN 77 Tryz.f77 [] Bz15 oI jP false [.tmp 2]:=fN 1 Tryz.func77 E7
noncomputable def cP:SC:=bD Tryz.f77 0
theorem cF:ST oI 0 cP:=sT E7
theorem vB{L n:Nat}{args:List A}{h:H}:aA env L (n+1) 78 args h=zM 3 args h:=by
 have:env.prim 78=some (zM 3):=kr;simp only[aA,this]
theorem wH{L n:Nat}{args:List A}{h:H}:aA env L (n+1) 79 args h=lM 3 args h:=by
 have:env.prim 79=some (lM 3):=kr;simp only[aA,this]
noncomputable def HB:SC:=aX Tryz.f82
noncomputable def XC:Nat->Code:=lpOf Tryz.f82
theorem WC:aM (aN Tryz.f82)=true:=kr
theorem XN:FN 82 Tryz.f82 [] ([]) XC HB false [.tmp 6,.tmp 7]:=fN 1 Tryz.func82 WC
noncomputable def AE:SC:=aX Tryz.f83
noncomputable def eM:Nat->Code:=lpOf Tryz.f83
theorem qW:aM (aN Tryz.f83)=true:=kr
theorem FF:FN 83 Tryz.f83 [] Bz2 eM AE false [.tmp 2,.tmp 3]:=fN 1 Tryz.func83 qW
noncomputable def B2:SC:=bD Tryz.f83 0
theorem GV:ST eM 0 B2:=sT qW
noncomputable def uE:SC:=bD Tryz.f83 1
theorem vE:ST eM 1 uE:=sT qW
noncomputable def oQ:SC:=bD Tryz.f83 2
theorem nW:ST eM 2 oQ:=sT qW
noncomputable def oN:SC:=bD Tryz.f83 3
theorem n8:ST eM 3 oN:=sT qW
noncomputable def KK:SC:=aX Tryz.f84
noncomputable def YA:Nat->Code:=lpOf Tryz.f84
theorem ZI:aM (aN Tryz.f84)=true:=kr
theorem aAN:FN 84 Tryz.f84 [] ([]) YA KK false [.tmp 2]:=fN 1 Tryz.func84 ZI
noncomputable def O1:SC:=aX Tryz.f85
noncomputable def rX:Nat->Code:=lpOf Tryz.f85
theorem J2:aM (aN Tryz.f85)=true:=kr
theorem aBv:FN 85 Tryz.f85 [0,0,0,2] Bz31 rX O1 false [.tmp 2]:=fN 2 Tryz.func85 J2
noncomputable def pY:SC:=bD Tryz.f85 0
theorem qX:ST rX 0 pY:=sT J2
noncomputable def JZ:SC:=aX Tryz.f89
noncomputable def fF:Nat->Code:=lpOf Tryz.f89
theorem yI:aM (aN Tryz.f89)=true:=kr
theorem RV:FN 89 Tryz.f89 [] Bz1 fF JZ false [.tmp 2]:=fN 2 Tryz.func89 yI
noncomputable def oW:SC:=bD Tryz.f89 0
theorem oM:ST fF 0 oW:=sT yI
noncomputable def oU:SC:=bD Tryz.f89 1
theorem oE:ST fF 1 oU:=sT yI
noncomputable def uD:SC:=bD Tryz.f89 2
theorem uR:ST fF 2 uD:=sT yI
noncomputable def LC:SC:=aX Tryz.f95
noncomputable def aAm:Nat->Code:=lpOf Tryz.f95
theorem ZO:aM (aN Tryz.f95)=true:=kr
theorem ZS:FN 95 Tryz.f95 [] ([]) aAm LC false [.tmp 2]:=fN 1 Tryz.func95 ZO
noncomputable def jV:SC:=aX Tryz.f101
noncomputable def oF:Nat->Code:=lpOf Tryz.f101
theorem GC:aM (aN Tryz.f101)=true:=kr
theorem kW:FN 101 Tryz.f101 [] Bz33 oF jV false [.tmp 2]:=fN 1 Tryz.func101 GC
noncomputable def iJ:SC:=bD Tryz.f101 0
theorem iC:ST oF 0 iJ:=sT GC
noncomputable def lK:SC:=aX Tryz.f102
noncomputable def aHH:Nat->Code:=lpOf Tryz.f102
theorem aHz:aM (aN Tryz.f102)=true:=kr
theorem mH:FN 102 Tryz.f102 [] ([]) aHH lK false [.tmp 6]:=fN 1 Tryz.func102 aHz
noncomputable def N5:SC:=aX Tryz.f112
noncomputable def zB:Nat->Code:=lpOf Tryz.f112
theorem J5:aM (aN Tryz.f112)=true:=kr
theorem aBC:FN 112 Tryz.f112 [] Bz55 zB N5 false [.tmp 2]:=fN 2 Tryz.func112 J5
noncomputable def qD:SC:=bD Tryz.f112 0
theorem rH:ST zB 0 qD:=sT J5
noncomputable def aCw:SC:=aX Tryz.f116
noncomputable def aI0:Nat->Code:=lpOf Tryz.f116
theorem aJh:aM (aN Tryz.f116)=true:=kr
theorem aJN:FN 116 Tryz.f116 [] ([]) aI0 aCw false [.tmp 4]:=fN 1 Tryz.func116 aJh
noncomputable def aII:SC:=aX Tryz.f120
noncomputable def aMK:Nat->Code:=lpOf Tryz.f120
theorem aMg:aM (aN Tryz.f120)=true:=kr
theorem aL4:FN 120 Tryz.f120 [] ([]) aMK aII false [.tmp 4]:=fN 1 Tryz.func120 aMg
noncomputable def KB:SC:=aX Tryz.f124
noncomputable def YO:Nat->Code:=lpOf Tryz.f124
theorem aAP:aM (aN Tryz.f124)=true:=kr
theorem aAg:FN 124 Tryz.f124 [] ([]) YO KB false [.tmp 2]:=fN 1 Tryz.func124 aAP
noncomputable def G6:SC:=aX Tryz.f125
noncomputable def M0:Nat->Code:=lpOf Tryz.f125
theorem Y7:aM (aN Tryz.f125)=true:=kr
theorem NS:FN 125 Tryz.f125 [] Bz36 M0 G6 false [.tmp 6]:=fN 1 Tryz.func125 Y7
noncomputable def tS:SC:=bD Tryz.f125 0
theorem sA:ST M0 0 tS:=sT Y7
noncomputable def eL:SC:=aX Tryz.f128
noncomputable def oG:Nat->Code:=lpOf Tryz.f128
theorem nV:aM (aN Tryz.f128)=true:=kr
theorem iB:FN 128 Tryz.f128 [] ([]) oG eL false [.tmp 4]:=fN 1 Tryz.func128 nV
noncomputable def H8:SC:=aX Tryz.f129
noncomputable def XD:Nat->Code:=lpOf Tryz.f129
theorem WX:aM (aN Tryz.f129)=true:=kr
theorem X5:FN 129 Tryz.f129 [] ([]) XD H8 false [.tmp 2]:=fN 0 Tryz.func129 WX
noncomputable def aAb:SC:=aX Tryz.f132
noncomputable def JD:Nat->Code:=lpOf Tryz.f132
theorem VA:aM (aN Tryz.f132)=true:=kr
theorem aHe:FN 132 Tryz.f132 [] Bz51 JD aAb true [.tmp 2]:=fN 0 Tryz.func132 VA
noncomputable def yH:SC:=bD Tryz.f132 0
theorem xF:ST JD 0 yH:=sT VA
noncomputable def m8:SC:=aX Tryz.f133
noncomputable def YF:Nat->Code:=lpOf Tryz.f133
theorem YV:aM (aN Tryz.f133)=true:=kr
theorem pV:FN 133 Tryz.f133 [] ([]) YF m8 false (Tryz.f133.results.toList):=fN 0 Tryz.func133 YV
noncomputable def dF:SC:=aX Tryz.f134
noncomputable def x8:Nat->Code:=lpOf Tryz.f134
theorem PX:aM (aN Tryz.f134)=true:=kr
theorem dC:FN 134 Tryz.f134 (W32 (W32 (W16 (W2 (W1 [1002,0,0,0,0,0,0,0,0,0,0,0,0,0,0,0,0,0,0,0,0,0,1002]))))) Bz22 x8 dF false (Tryz.f134.results.toList):=fN 0 Tryz.func134 PX
noncomputable def uA:SC:=bD Tryz.f134 0
theorem u4:ST x8 0 uA:=sT PX
noncomputable def tJ:SC:=aX Tryz.f135
noncomputable def F1:Nat->Code:=lpOf Tryz.f135
theorem PN:aM (aN Tryz.f135)=true:=kr
theorem yB:FN 135 Tryz.f135 [] Bz52 F1 tJ false [.tmp 4]:=fN 0 Tryz.func135 PN
noncomputable def B4:SC:=bD Tryz.f135 0
theorem E8:ST F1 0 B4:=sT PN
noncomputable def tH:SC:=aX Tryz.f136
noncomputable def aFf:Nat->Code:=lpOf Tryz.f136
theorem aFb:aM (aN Tryz.f136)=true:=kr
theorem wR:FN 136 Tryz.f136 [] ([]) aFf tH false (Tryz.f136.results.toList):=fN 0 Tryz.func136 aFb
noncomputable def gY:SC:=aX Tryz.f140
noncomputable def B6:Nat->Code:=lpOf Tryz.f140
theorem OW:aM (aN Tryz.f140)=true:=kr
theorem iN:FN 140 Tryz.f140 [] Bz29 B6 gY false (Tryz.f140.results.toList):=fN 0 Tryz.func140 OW
noncomputable def cN:SC:=bD Tryz.f140 0
theorem bV:ST B6 0 cN:=sT OW
noncomputable def gE:SC:=aX Tryz.f141
noncomputable def aEi:Nat->Code:=lpOf Tryz.f141
theorem aEl:aM (aN Tryz.f141)=true:=kr
theorem gF:FN 141 Tryz.f141 (W32 (W32 (W16 (W8 (W4 (W1 [1002])))))) ([]) aEi gE false (Tryz.f141.results.toList):=fN 0 Tryz.func141 aEl
noncomputable def GK:SC:=aX Tryz.f142
noncomputable def CO:Nat->Code:=lpOf Tryz.f142
theorem OT:aM (aN Tryz.f142)=true:=kr
theorem OZ:FN 142 Tryz.f142 [] Bz56 CO GK false [.tmp 2]:=fN 1 Tryz.func142 OT
noncomputable def rP:SC:=bD Tryz.f142 0
theorem s7:ST CO 0 rP:=sT OT
noncomputable def mO:SC:=aX Tryz.f143
noncomputable def SW:Nat->Code:=lpOf Tryz.f143
theorem Q0:aM (aN Tryz.f143)=true:=kr
theorem qV:FN 143 Tryz.f143 [] ([]) SW mO false [.tmp 4]:=fN 1 Tryz.func143 Q0
noncomputable def JH:SC:=aX Tryz.f144
noncomputable def aFJ:Nat->Code:=lpOf Tryz.f144
theorem aEX:aM (aN Tryz.f144)=true:=kr
theorem Q3:FN 144 Tryz.f144 [] ([]) aFJ JH false [.tmp 4]:=fN 1 Tryz.func144 aEX
noncomputable def eO:SC:=aX Tryz.f146
noncomputable def aFE:Nat->Code:=lpOf Tryz.f146
theorem aGg:aM (aN Tryz.f146)=true:=kr
theorem eK:FN 146 Tryz.f146 [] ([]) aFE eO false (Tryz.f146.results.toList):=fN 0 Tryz.func146 aGg
noncomputable def DQ:SC:=aX Tryz.f147
noncomputable def aHE:Nat->Code:=lpOf Tryz.f147
theorem aHn:aM (aN Tryz.f147)=true:=kr
theorem JY:FN 147 Tryz.f147 [] ([]) aHE DQ false (Tryz.f147.results.toList):=fN 0 Tryz.func147 aHn
noncomputable def R5:SC:=aX Tryz.f148
noncomputable def BZ:Nat->Code:=lpOf Tryz.f148
theorem N6:aM (aN Tryz.f148)=true:=kr
theorem aEn:FN 148 Tryz.f148 [] Bz57 BZ R5 false (Tryz.f148.results.toList):=fN 2 Tryz.func148 N6
noncomputable def sD:SC:=bD Tryz.f148 0
theorem s6:ST BZ 0 sD:=sT N6
noncomputable def BE:SC:=aX Tryz.f149
noncomputable def pO:Nat->Code:=lpOf Tryz.f149
theorem yL:aM (aN Tryz.f149)=true:=kr
theorem PK:FN 149 Tryz.f149 [] Bz24 pO BE false [.tmp 11]:=fN 0 Tryz.func149 yL
noncomputable def oJ:SC:=bD Tryz.f149 0
theorem sH:ST pO 0 oJ:=sT yL
noncomputable def KX:SC:=aX Tryz.f150
noncomputable def eU:Nat->Code:=lpOf Tryz.f150
theorem p9:aM (aN Tryz.f150)=true:=kr
theorem aAc:FN 150 Tryz.f150 (W8 (W4 (W2 [2]))) Bz0 eU KX false [.tmp 8]:=fN 0 Tryz.func150 p9
noncomputable def nT:SC:=bD Tryz.f150 0
theorem pR:ST eU 0 nT:=sT p9
noncomputable def kY:SC:=bD Tryz.f150 1
theorem lB:ST eU 1 kY:=sT p9
noncomputable def kS:SC:=bD Tryz.f150 2
theorem lD:ST eU 2 kS:=sT p9
noncomputable def rC:SC:=aX Tryz.f151
noncomputable def PF:Nat->Code:=lpOf Tryz.f151
theorem PH:aM (aN Tryz.f151)=true:=kr
theorem yJ:FN 151 Tryz.f151 [] ([]) PF rC false [.tmp 6]:=fN 0 Tryz.func151 PH
noncomputable def uL:SC:=aX Tryz.f152
noncomputable def iY:Nat->Code:=lpOf Tryz.f152
theorem rM:aM (aN Tryz.f152)=true:=kr
theorem zR:FN 152 Tryz.f152 (W16 (W2 [2])) Bz3 iY uL false [.tmp 10,.tmp 11]:=fN 1 Tryz.func152 rM
noncomputable def lL:SC:=bD Tryz.f152 0
theorem lO:ST iY 0 lL:=sT rM
noncomputable def qC:SC:=bD Tryz.f152 1
theorem rG:ST iY 1 qC:=sT rM
noncomputable def wK:SC:=bD Tryz.f152 2
theorem BL:ST iY 2 wK:=sT rM
noncomputable def KL:SC:=aX Tryz.f153
noncomputable def xB:Nat->Code:=lpOf Tryz.f153
theorem HZ:aM (aN Tryz.f153)=true:=kr
theorem ZX:FN 153 Tryz.f153 [] Bz47 xB KL false [.tmp 2]:=fN 1 Tryz.func153 HZ
noncomputable def uV:SC:=bD Tryz.f153 0
theorem yT:ST xB 0 uV:=sT HZ
noncomputable def VP:SC:=aX Tryz.f154
noncomputable def qI:Nat->Code:=lpOf Tryz.f154
theorem ET:aM (aN Tryz.f154)=true:=kr
theorem aEL:FN 154 Tryz.f154 [] Bz39 qI VP false [.tmp 2]:=fN 2 Tryz.func154 ET
noncomputable def CH:SC:=bD Tryz.f154 0
theorem GF:ST qI 0 CH:=sT ET
noncomputable def B3:SC:=bD Tryz.f154 1
theorem FB:ST qI 1 B3:=sT ET
noncomputable def UF:SC:=aX Tryz.f155
noncomputable def rI:Nat->Code:=lpOf Tryz.f155
theorem EV:aM (aN Tryz.f155)=true:=kr
theorem aGT:FN 155 Tryz.f155 [] Bz16 rI UF false [.tmp 6]:=fN 2 Tryz.func155 EV
noncomputable def CP:SC:=bD Tryz.f155 0
theorem F5:ST rI 0 CP:=sT EV
noncomputable def B8:SC:=bD Tryz.f155 1
theorem FW:ST rI 1 B8:=sT EV
noncomputable def pE:SC:=aX Tryz.f156
noncomputable def aGm:Nat->Code:=lpOf Tryz.f156
theorem aGQ:aM (aN Tryz.f156)=true:=kr
theorem qP:FN 156 Tryz.f156 [] (Z2 (U1 (Z2 (Z1 (U2 (Z32 (Z16 (Z8 ([]))))))))) aGm pE false [.tmp 6]:=fN 1 Tryz.func156 aGQ
noncomputable def PT:SC:=aX Tryz.f157
noncomputable def CA:Nat->Code:=lpOf Tryz.f157
theorem OE:aM (aN Tryz.f157)=true:=kr
theorem aD8:FN 157 Tryz.f157 [] Bz53 CA PT false [.tmp 4]:=fN 2 Tryz.func157 OE
noncomputable def zK:SC:=bD Tryz.f157 0
theorem CW:ST CA 0 zK:=sT OE
noncomputable def Z9:SC:=aX Tryz.f158
noncomputable def pC:Nat->Code:=lpOf Tryz.f158
theorem JU:aM (aN Tryz.f158)=true:=kr
theorem aHb:FN 158 Tryz.f158 [] Bz20 pC Z9 false []:=fN 0 Tryz.func158 JU
noncomputable def wL:SC:=bD Tryz.f158 0
theorem wS:ST pC 0 wL:=sT JU
noncomputable def qK:SC:=bD Tryz.f158 1
theorem pU:ST pC 1 qK:=sT JU
noncomputable def RP:SC:=aX Tryz.f159
noncomputable def CM:Nat->Code:=lpOf Tryz.f159
theorem OA:aM (aN Tryz.f159)=true:=kr
theorem aDW:FN 159 Tryz.f159 [] Bz61 CM RP false [.tmp 4]:=fN 1 Tryz.func159 OA
noncomputable def zU:SC:=bD Tryz.f159 0
theorem CT:ST CM 0 zU:=sT OA
noncomputable def P7:SC:=aX Tryz.f160
noncomputable def oS:Nat->Code:=lpOf Tryz.f160
theorem B1:aM (aN Tryz.f160)=true:=kr
theorem aEc:FN 160 Tryz.f160 [] Bz23 oS P7 false [.tmp 10]:=fN 2 Tryz.func160 B1
noncomputable def zL:SC:=bD Tryz.f160 0
theorem CZ:ST oS 0 zL:=sT B1
noncomputable def mY:SC:=bD Tryz.f160 1
theorem mT:ST oS 1 mY:=sT B1
noncomputable def aAq:SC:=aX Tryz.f161
noncomputable def aHT:Nat->Code:=lpOf Tryz.f161
theorem aHG:aM (aN Tryz.f161)=true:=kr
theorem aHl:FN 161 Tryz.f161 [] ([]) aHT aAq false [.tmp 2]:=fN 1 Tryz.func161 aHG
noncomputable def xM:SC:=aX Tryz.f169
noncomputable def aEu:Nat->Code:=lpOf Tryz.f169
theorem aDT:aM (aN Tryz.f169)=true:=kr
theorem CB:FN 169 Tryz.f169 [] ([]) aEu xM false [.tmp 4]:=fN 1 Tryz.func169 aDT
noncomputable def VW:SC:=aX Tryz.f180
noncomputable def FY:Nat->Code:=lpOf Tryz.f180
theorem RB:aM (aN Tryz.f180)=true:=kr
theorem aGX:FN 180 Tryz.f180 [0,0,0,2] Bz62 FY VW false [.tmp 2]:=fN 2 Tryz.func180 RB
noncomputable def uH:SC:=bD Tryz.f180 0
theorem vA:ST FY 0 uH:=sT RB
noncomputable def V7:SC:=aX Tryz.f185
noncomputable def xI:Nat->Code:=lpOf Tryz.f185
theorem RO:aM (aN Tryz.f185)=true:=kr
theorem aEP:FN 185 Tryz.f185 [] Bz28 xI V7 false [.tmp 2]:=fN 2 Tryz.func185 RO
noncomputable def BY:SC:=bD Tryz.f185 0
theorem E9:ST xI 0 BY:=sT RO
noncomputable def fI:SC:=aX Tryz.f193
noncomputable def eY:Nat->Code:=lpOf Tryz.f193
theorem jE:aM (aN Tryz.f193)=true:=kr
theorem jF:FN 193 Tryz.f193 [] Bz58 eY fI false [.tmp 4]:=fN 1 Tryz.func193 jE
noncomputable def dD:SC:=bD Tryz.f193 0
theorem eC:ST eY 0 dD:=sT jE
noncomputable def UY:SC:=aX Tryz.f194
noncomputable def aGA:Nat->Code:=lpOf Tryz.f194
theorem aGR:aM (aN Tryz.f194)=true:=kr
theorem aGd:FN 194 Tryz.f194 [] ([]) aGA UY false (Tryz.f194.results.toList):=fN 0 Tryz.func194 aGR
noncomputable def ZG:SC:=aX Tryz.f195
noncomputable def aG9:Nat->Code:=lpOf Tryz.f195
theorem aHo:aM (aN Tryz.f195)=true:=kr
theorem aHQ:FN 195 Tryz.f195 [] ([]) aG9 ZG false [.tmp 2]:=fN 0 Tryz.func195 aHo
noncomputable def aAs:SC:=aX Tryz.f196
noncomputable def o6:Nat->Code:=lpOf Tryz.f196
theorem JW:aM (aN Tryz.f196)=true:=kr
theorem aHV:FN 196 Tryz.f196 [] Bz9 o6 aAs false (Tryz.f196.results.toList):=fN 0 Tryz.func196 JW
noncomputable def FS:SC:=bD Tryz.f196 0
theorem HN:ST o6 0 FS:=sT JW
noncomputable def EO:SC:=bD Tryz.f196 1
theorem IC:ST o6 1 EO:=sT JW
noncomputable def M6:SC:=aX Tryz.f197
noncomputable def aHD:Nat->Code:=lpOf Tryz.f197
theorem aHm:aM (aN Tryz.f197)=true:=kr
theorem U5:FN 197 Tryz.f197 [] ([]) aHD M6 false (Tryz.f197.results.toList):=fN 0 Tryz.func197 aHm
noncomputable def MV:SC:=aX Tryz.f198
noncomputable def pH:Nat->Code:=lpOf Tryz.f198
theorem U9:aM (aN Tryz.f198)=true:=kr
theorem UZ:FN 198 Tryz.f198 (W16 (W8 (W4 [1002]))) Bz13 pH MV true (Tryz.f198.results.toList):=fN 2 Tryz.func198 U9
noncomputable def qZ:SC:=bD Tryz.f198 0
theorem pW:ST pH 0 qZ:=sT U9
noncomputable def HD:SC:=aX Tryz.f206
noncomputable def W7:Nat->Code:=lpOf Tryz.f206
theorem X1:aM (aN Tryz.f206)=true:=kr
theorem XK:FN 206 Tryz.f206 [] ([]) W7 HD false [.tmp 2]:=fN 1 Tryz.func206 X1
noncomputable def PS:SC:=aX Tryz.f207
noncomputable def aEb:Nat->Code:=lpOf Tryz.f207
theorem aD9:aM (aN Tryz.f207)=true:=kr
theorem aDZ:FN 207 Tryz.f207 [] ([]) aEb PS false [.tmp 4]:=fN 0 Tryz.func207 aD9
noncomputable def GW:SC:=aX Tryz.f209
noncomputable def jX:Nat->Code:=lpOf Tryz.f209
theorem uB:aM (aN Tryz.f209)=true:=kr
theorem OO:FN 209 Tryz.f209 [] Bz10 jX GW false (Tryz.f209.results.toList):=fN 0 Tryz.func209 uB
noncomputable def zT:SC:=bD Tryz.f209 0
theorem C3:ST jX 0 zT:=sT uB
noncomputable def zJ:SC:=bD Tryz.f209 1
theorem C7:ST jX 1 zJ:=sT uB
noncomputable def mZ:SC:=bD Tryz.f209 2
theorem mN:ST jX 2 mZ:=sT uB
noncomputable def nP:SC:=aX Tryz.f210
noncomputable def mL:Nat->Code:=lpOf Tryz.f210
theorem DG:aM (aN Tryz.f210)=true:=kr
theorem sY:FN 210 Tryz.f210 (W8 (W2 [2])) Bz8 mL nP false [.tmp 9]:=fN 0 Tryz.func210 DG
noncomputable def cU:SC:=bD Tryz.f210 0
theorem cJ:ST mL 0 cU:=sT DG
noncomputable def QB:SC:=aX Tryz.f211
noncomputable def CK:Nat->Code:=lpOf Tryz.f211
theorem N8:aM (aN Tryz.f211)=true:=kr
theorem aEa:FN 211 Tryz.f211 [0,0,0,2] Bz43 CK QB false [.tmp 2]:=fN 1 Tryz.func211 N8
noncomputable def y9:SC:=bD Tryz.f211 0
theorem C8:ST CK 0 y9:=sT N8
noncomputable def VD:SC:=aX Tryz.f212
noncomputable def kT:Nat->Code:=lpOf Tryz.f212
theorem xH:aM (aN Tryz.f212)=true:=kr
theorem aGS:FN 212 Tryz.f212 [] Bz5 kT VD false [.tmp 8]:=fN 2 Tryz.func212 xH
noncomputable def CE:SC:=bD Tryz.f212 0
theorem F0:ST kT 0 CE:=sT xH
noncomputable def CC:SC:=bD Tryz.f212 1
theorem FV:ST kT 1 CC:=sT xH
noncomputable def CG:SC:=bD Tryz.f212 2
theorem GP:ST kT 2 CG:=sT xH
noncomputable def aFw:SC:=aX Tryz.f213
noncomputable def aKc:Nat->Code:=lpOf Tryz.f213
theorem aKj:aM (aN Tryz.f213)=true:=kr
theorem aLi:FN 213 Tryz.f213 [] ([]) aKc aFw false [.tmp 6]:=fN 1 Tryz.func213 aKj
noncomputable def L5:SC:=aX Tryz.f214
noncomputable def tX:Nat->Code:=lpOf Tryz.f214
theorem JN:aM (aN Tryz.f214)=true:=kr
theorem UM:FN 214 Tryz.f214 [] Bz17 tX L5 false [.tmp 6]:=fN 1 Tryz.func214 JN
noncomputable def xQ:SC:=bD Tryz.f214 0
theorem yF:ST tX 0 xQ:=sT JN
noncomputable def x5:SC:=bD Tryz.f214 1
theorem wT:ST tX 1 x5:=sT JN
noncomputable def WS:SC:=aX Tryz.f215
noncomputable def RT:Nat->Code:=lpOf Tryz.f215
theorem aCb:aM (aN Tryz.f215)=true:=kr
theorem aDb:FN 215 Tryz.f215 [] Bz65 RT WS false [.tmp 4]:=fN 1 Tryz.func215 aCb
noncomputable def D1:SC:=bD Tryz.f215 0
theorem CJ:ST RT 0 D1:=sT aCb
theorem zZ{L n:Nat}{args:List A}{h:H}:aA env L (n+1) 240 args h=gCtz args h:=by
 have:env.prim 240=some (gCtz):=kr;simp only[aA,this]
noncomputable def SV:SC:=aX Tryz.f247
noncomputable def jZ:Nat->Code:=lpOf Tryz.f247
theorem B0:aM (aN Tryz.f247)=true:=kr
theorem aD0:FN 247 Tryz.f247 (W32 (W4 (W1 [1002]))) Bz4 jZ SV true (Tryz.f247.results.toList):=fN 0 Tryz.func247 B0
noncomputable def sE:SC:=bD Tryz.f247 0
theorem s4:ST jZ 0 sE:=sT B0
noncomputable def m7:SC:=bD Tryz.f247 1
theorem mQ:ST jZ 1 m7:=sT B0
noncomputable def oV:SC:=aX Tryz.f251
noncomputable def fZ:Nat->Code:=lpOf Tryz.f251
theorem nM:aM (aN Tryz.f251)=true:=kr
theorem A7:FN 251 Tryz.f251 [] Bz44 fZ oV false []:=fN 0 Tryz.func251 nM
noncomputable def fP:SC:=bD Tryz.f251 0
theorem gU:ST fZ 0 fP:=sT nM
noncomputable def uN:SC:=aX Tryz.f252
noncomputable def z4:Nat->Code:=lpOf Tryz.f252
theorem LP:aM (aN Tryz.f252)=true:=kr
theorem zD:FN 252 Tryz.f252 [] Bz42 z4 uN false [.tmp 8]:=fN 2 Tryz.func252 LP
noncomputable def lT:SC:=bD Tryz.f252 0
theorem lV:ST z4 0 lT:=sT LP
noncomputable def X7:SC:=aX Tryz.f270
noncomputable def aLF:Nat->Code:=lpOf Tryz.f270
theorem aK1:aM (aN Tryz.f270)=true:=kr
theorem aC6:FN 270 Tryz.f270 [] ([]) aLF X7 false [.tmp 6]:=fN 1 Tryz.func270 aK1
noncomputable def UJ:SC:=aX Tryz.f275
noncomputable def FP:Nat->Code:=lpOf Tryz.f275
theorem RU:aM (aN Tryz.f275)=true:=kr
theorem aE6:FN 275 Tryz.f275 [] Bz59 FP UJ false [.tmp 4]:=fN 1 Tryz.func275 RU
noncomputable def t7:SC:=bD Tryz.f275 0
theorem vD:ST FP 0 t7:=sT RU
end
end Ev
end Go.Proofs.YtahbdkmimmnadaaGreatDoor
