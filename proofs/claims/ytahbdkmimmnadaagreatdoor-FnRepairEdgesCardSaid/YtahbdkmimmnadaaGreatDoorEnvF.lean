/-
  Each function's code as an equation. Written by a program.
-/
import Derived.Test.YtahbdkmimmnadaaGreatDoorEnv
set_option linter.unusedSimpArgs false
set_option linter.unusedVariables false
set_option linter.unusedSectionVars false
set_option maxRecDepth 100000
namespace Go.Proofs.YtahbdkmimmnadaaGreatDoor
namespace Ev
abbrev FN(f:Nat)(fn:Func)(th:List Nat)(lv:List Bool)(lp:Nat->Code)(S:SC)(e:Bool)(rs:List ResultVar):Prop:=∀(L n:Nat) (args:List A) (h:H),aA env L (n+1) f args h=eJ env (aA env L n) L h.length th lv lp S (args++List.replicate (fn.ntmps-args.length) (.d .undef)) h (kFin env.P h.length e rs)
theorem fN (mode : Nat) {f : Nat} {fn : Func} {e : Bool} {th : List Nat} {lv : List Bool} {rs : List ResultVar} (hf : env.P.funcs[f]? = some fn) (hd : aM (aO fn) = true) (hp : (env.prim f).isNone = true := by kernel_rfl) (hb : fn.body.isSome = true := by kernel_rfl) (hn : (fn.name == "runtime.NumGoroutine") = false := by kernel_rfl) (hh : env.hint f = ⟨mode, e, th, lv⟩ := by kernel_rfl) (hr : fn.results.toList = rs := by kernel_rfl) : FN f fn th lv (lpOf fn) (aX fn) e rs := fun _ _ _ _ => aPK hp hf hb hn hd hh hr
abbrev ST(lp:Nat->Code)(i:Nat)(S:SC):Prop:=∀(R:Type) (call:aW) (L nf n:Nat) (thaw:List Nat) (live m:List Bool) (s:List A) (h:H) (k:KE R),aV env call L nf thaw live (lp i) m (n+1) s h k=eJ env call L nf thaw live lp S s h (aAB env call L nf thaw live (lp i) m n k)
theorem sT{fn:Func}{i:Nat}(hd:aM (aO fn)=true)(hi:((bK (aO fn))[i]?).isSome=true:=by kernel_rfl):ST (lpOf fn) i (bC fn i):=fun _ _ _ _ _ _ _ _ _ _ _=>aJa hd hi
section
variable{R:Type}{call:aW}{L nf n:Nat}{thaw:List Nat}{live m:List Bool}{s args:List A}{h:H}{k:KE R}
noncomputable def jX:SC:=aX Tryz.f5
noncomputable def u9:Nat->Code:=lpOf Tryz.f5
theorem GX:aM (aO Tryz.f5)=true:=kr
theorem kT:FN 5 Tryz.f5 [] Bz32 u9 jX false [.tmp 2]:=fN 1 Tryz.func5 GX
noncomputable def mO:SC:=bC Tryz.f5 0
theorem oH:ST u9 0 mO:=sT GX
noncomputable def jS:SC:=aX Tryz.f11
noncomputable def u7:Nat->Code:=lpOf Tryz.f11
theorem E0:aM (aO Tryz.f11)=true:=kr
theorem kV:FN 11 Tryz.f11 [] Bz30 u7 jS false [.tmp 6]:=fN 2 Tryz.func11 E0
noncomputable def mU:SC:=bC Tryz.f11 0
theorem oD:ST u7 0 mU:=sT E0
noncomputable def jQ:SC:=aX Tryz.f14
noncomputable def vG:Nat->Code:=lpOf Tryz.f14
theorem F1:aM (aO Tryz.f14)=true:=kr
theorem kW:FN 14 Tryz.f14 (W4 (W2 (W1 [4]))) Bz19 vG jQ false [.tmp 6]:=fN 2 Tryz.func14 F1
noncomputable def mM:SC:=bC Tryz.f14 0
theorem n5:ST vG 0 mM:=sT F1
noncomputable def pV:SC:=aX Tryz.f22
noncomputable def NO:Nat->Code:=lpOf Tryz.f22
theorem NN:aM (aO Tryz.f22)=true:=kr
theorem x7:FN 22 Tryz.f22 [] ([]) NO pV false (Tryz.f22.results.toList):=fN 2 Tryz.func22 NN
noncomputable def aDb:SC:=aX Tryz.f23
noncomputable def MV:Nat->Code:=lpOf Tryz.f23
theorem ZE:aM (aO Tryz.f23)=true:=kr
theorem aJI:FN 23 Tryz.f23 [] Bz64 MV aDb false [.tmp 4]:=fN 1 Tryz.func23 ZE
noncomputable def JN:SC:=bC Tryz.f23 0
theorem KZ:ST MV 0 JN:=sT ZE
noncomputable def uQ:SC:=aX Tryz.f24
noncomputable def aBv:Nat->Code:=lpOf Tryz.f24
theorem aB2:aM (aO Tryz.f24)=true:=kr
theorem zW:FN 24 Tryz.f24 [] ([]) aBv uQ false [.tmp 4]:=fN 1 Tryz.func24 aB2
noncomputable def tA:SC:=aX Tryz.f25
noncomputable def rA:Nat->Code:=lpOf Tryz.f25
theorem BB:aM (aO Tryz.f25)=true:=kr
theorem BH:FN 25 Tryz.f25 [] Bz47 rA tA false [.tmp 2]:=fN 1 Tryz.func25 BB
noncomputable def pW:SC:=bC Tryz.f25 0
theorem tZ:ST rA 0 pW:=sT BB
noncomputable def RQ:SC:=aX Tryz.f26
noncomputable def aEv:Nat->Code:=lpOf Tryz.f26
theorem aEk:aM (aO Tryz.f26)=true:=kr
theorem aEe:FN 26 Tryz.f26 [] ([]) aEv RQ false (Tryz.f26.results.toList):=fN 2 Tryz.func26 aEk
noncomputable def lS:SC:=aX Tryz.f29
noncomputable def PS:Nat->Code:=lpOf Tryz.f29
theorem PT:aM (aO Tryz.f29)=true:=kr
theorem pQ:FN 29 Tryz.f29 [] ([]) PS lS false [.tmp 4,.tmp 5]:=fN 1 Tryz.func29 PT
noncomputable def mA:SC:=aX Tryz.f30
noncomputable def PR:Nat->Code:=lpOf Tryz.f30
theorem PL:aM (aO Tryz.f30)=true:=kr
theorem pS:FN 30 Tryz.f30 [] ([]) PR mA false [.tmp 4,.tmp 5]:=fN 1 Tryz.func30 PL
noncomputable def fI:SC:=aX Tryz.f31
noncomputable def iV:Nat->Code:=lpOf Tryz.f31
theorem pT:aM (aO Tryz.f31)=true:=kr
theorem f9:FN 31 Tryz.f31 [] Bz6 iV fI false [.tmp 2]:=fN 1 Tryz.func31 pT
noncomputable def iF:SC:=bC Tryz.f31 0
theorem iS:ST iV 0 iF:=sT pT
noncomputable def gZ:SC:=bC Tryz.f31 1
theorem iR:ST iV 1 gZ:=sT pT
noncomputable def j3:SC:=aX Tryz.f55
noncomputable def rD:Nat->Code:=lpOf Tryz.f55
theorem BL:aM (aO Tryz.f55)=true:=kr
theorem lQ:FN 55 Tryz.f55 [] Bz51 rD j3 false [.tmp 2]:=fN 1 Tryz.func55 BL
noncomputable def iU:SC:=bC Tryz.f55 0
theorem jH:ST rD 0 iU:=sT BL
noncomputable def fF:SC:=aX Tryz.f56
noncomputable def pU:Nat->Code:=lpOf Tryz.f56
theorem yT:aM (aO Tryz.f56)=true:=kr
theorem gA:FN 56 Tryz.f56 [] Bz61 pU fF false [.tmp 2]:=fN 1 Tryz.func56 yT
noncomputable def kC:SC:=bC Tryz.f56 0
theorem lG:ST pU 0 kC:=sT yT
noncomputable def V1:SC:=aX Tryz.f57
noncomputable def aGY:Nat->Code:=lpOf Tryz.f57
theorem aF8:aM (aO Tryz.f57)=true:=kr
theorem aEX:FN 57 Tryz.f57 [] ([]) aGY V1 false (Tryz.f57.results.toList):=fN 2 Tryz.func57 aF8
noncomputable def uE:SC:=aX Tryz.f58
noncomputable def aCf:Nat->Code:=lpOf Tryz.f58
theorem aB8:aM (aO Tryz.f58)=true:=kr
theorem zT:FN 58 Tryz.f58 [] ([]) aCf uE false [.tmp 4]:=fN 1 Tryz.func58 aB8
noncomputable def yC:SC:=aX Tryz.f62
noncomputable def aD7:Nat->Code:=lpOf Tryz.f62
theorem aD1:aM (aO Tryz.f62)=true:=kr
theorem B2:FN 62 Tryz.f62 [] ([]) aD7 yC false [.tmp 2]:=fN 1 Tryz.func62 aD1
theorem rO{L n:Nat}{args:List A}{h:H}:aA env L (n+1) 63 args h=lY 3 args h:=by
 have:env.prim 63=some (lY 3):=kr;simp only[aA,this]
noncomputable def JZ:SC:=aX Tryz.f70
noncomputable def aFV:Nat->Code:=lpOf Tryz.f70
theorem aGv:aM (aO Tryz.f70)=true:=kr
theorem RE:FN 70 Tryz.f70 [] ([]) aFV JZ true [.tmp 2]:=fN 2 Tryz.func70 aGv
noncomputable def tV:SC:=aX Tryz.f71
noncomputable def aGe:Nat->Code:=lpOf Tryz.f71
theorem aF6:aM (aO Tryz.f71)=true:=kr
theorem wP:FN 71 Tryz.f71 [] ([]) aGe tV false (Tryz.f71.results.toList):=fN 0 Tryz.func71 aF6
noncomputable def mX:SC:=aX Tryz.f72
noncomputable def aAp:Nat->Code:=lpOf Tryz.f72
theorem ZL:aM (aO Tryz.f72)=true:=kr
theorem pY:FN 72 Tryz.f72 [] ([]) aAp mX false [.tmp 4]:=fN 0 Tryz.func72 ZL
noncomputable def pE:SC:=aX Tryz.f73
noncomputable def aGr:Nat->Code:=lpOf Tryz.f73
theorem aFf:aM (aO Tryz.f73)=true:=kr
theorem rK:FN 73 Tryz.f73 [] ([]) aGr pE false (Tryz.f73.results.toList):=fN 0 Tryz.func73 aFf
noncomputable def PD:SC:=aX Tryz.f74
noncomputable def aBX:Nat->Code:=lpOf Tryz.f74
theorem aBO:aM (aO Tryz.f74)=true:=kr
theorem aB1:FN 74 Tryz.f74 [] ([]) aBX PD false [.tmp 4]:=fN 0 Tryz.func74 aBO
noncomputable def dJ:SC:=aX Tryz.f75
noncomputable def cI:Nat->Code:=lpOf Tryz.f75
theorem fL:aM (aO Tryz.f75)=true:=kr
theorem fK:FN 75 Tryz.f75 [] Bz12 cI dJ false [.tmp 6,.tmp 7]:=fN 1 Tryz.func75 fL
noncomputable def bL:SC:=bC Tryz.f75 0
theorem bW:ST cI 0 bL:=sT fL
noncomputable def EW:SC:=aX Tryz.f76
noncomputable def UF:Nat->Code:=lpOf Tryz.f76
theorem UB:aM (aO Tryz.f76)=true:=kr
theorem UD:FN 76 Tryz.f76 [] ([]) UF EW false [.tmp 4]:=fN 1 Tryz.func76 UB
noncomputable def jR:SC:=aX Tryz.f77
noncomputable def n6:Nat->Code:=lpOf Tryz.f77
theorem E8:aM (aO Tryz.f77)=true:=kr
theorem kQ:FN 77 Tryz.f77 [] Bz15 n6 jR false [.tmp 2]:=fN 1 Tryz.func77 E8
noncomputable def cQ:SC:=bC Tryz.f77 0
theorem cG:ST n6 0 cQ:=sT E8
theorem uT{L n:Nat}{args:List A}{h:H}:aA env L (n+1) 78 args h=zL 3 args h:=by
 have:env.prim 78=some (zL 3):=kr;simp only[aA,this]
theorem wJ{L n:Nat}{args:List A}{h:H}:aA env L (n+1) 79 args h=lY 3 args h:=by
 have:env.prim 79=some (lY 3):=kr;simp only[aA,this]
noncomputable def HY:SC:=aX Tryz.f82
noncomputable def XL:Nat->Code:=lpOf Tryz.f82
theorem W3:aM (aO Tryz.f82)=true:=kr
theorem X1:FN 82 Tryz.f82 [] ([]) XL HY false [.tmp 6,.tmp 7]:=fN 1 Tryz.func82 W3
noncomputable def AK:SC:=aX Tryz.f83
noncomputable def eM:Nat->Code:=lpOf Tryz.f83
theorem qK:aM (aO Tryz.f83)=true:=kr
theorem F7:FN 83 Tryz.f83 [] Bz2 eM AK false [.tmp 2,.tmp 3]:=fN 1 Tryz.func83 qK
noncomputable def B8:SC:=bC Tryz.f83 0
theorem F3:ST eM 0 B8:=sT qK
noncomputable def uF:SC:=bC Tryz.f83 1
theorem vF:ST eM 1 uF:=sT qK
noncomputable def oY:SC:=bC Tryz.f83 2
theorem nT:ST eM 2 oY:=sT qK
noncomputable def o6:SC:=bC Tryz.f83 3
theorem oN:ST eM 3 o6:=sT qK
noncomputable def KX:SC:=aX Tryz.f84
noncomputable def aA8:Nat->Code:=lpOf Tryz.f84
theorem aAb:aM (aO Tryz.f84)=true:=kr
theorem ZA:FN 84 Tryz.f84 [] ([]) aA8 KX false [.tmp 2]:=fN 1 Tryz.func84 aAb
noncomputable def PC:SC:=aX Tryz.f85
noncomputable def rY:Nat->Code:=lpOf Tryz.f85
theorem LY:aM (aO Tryz.f85)=true:=kr
theorem aBs:FN 85 Tryz.f85 [0,0,0,2] Bz31 rY PC false [.tmp 2]:=fN 2 Tryz.func85 LY
noncomputable def qD:SC:=bC Tryz.f85 0
theorem qR:ST rY 0 qD:=sT LY
noncomputable def JP:SC:=aX Tryz.f89
noncomputable def fG:Nat->Code:=lpOf Tryz.f89
theorem yA:aM (aO Tryz.f89)=true:=kr
theorem QS:FN 89 Tryz.f89 [] Bz1 fG JP false [.tmp 2]:=fN 2 Tryz.func89 yA
noncomputable def oS:SC:=bC Tryz.f89 0
theorem nZ:ST fG 0 oS:=sT yA
noncomputable def oT:SC:=bC Tryz.f89 1
theorem oM:ST fG 1 oT:=sT yA
noncomputable def uC:SC:=bC Tryz.f89 2
theorem uR:ST fG 2 uC:=sT yA
noncomputable def KI:SC:=aX Tryz.f95
noncomputable def aAP:Nat->Code:=lpOf Tryz.f95
theorem aA0:aM (aO Tryz.f95)=true:=kr
theorem Z0:FN 95 Tryz.f95 [] ([]) aAP KI false [.tmp 2]:=fN 1 Tryz.func95 aA0
noncomputable def jT:SC:=aX Tryz.f101
noncomputable def oP:Nat->Code:=lpOf Tryz.f101
theorem FI:aM (aO Tryz.f101)=true:=kr
theorem kU:FN 101 Tryz.f101 [] Bz34 oP jT false [.tmp 2]:=fN 1 Tryz.func101 FI
noncomputable def iH:SC:=bC Tryz.f101 0
theorem gX:ST oP 0 iH:=sT FI
noncomputable def lR:SC:=aX Tryz.f102
noncomputable def aHA:Nat->Code:=lpOf Tryz.f102
theorem aHC:aM (aO Tryz.f102)=true:=kr
theorem mE:FN 102 Tryz.f102 [] ([]) aHA lR false [.tmp 6]:=fN 1 Tryz.func102 aHC
noncomputable def OV:SC:=aX Tryz.f112
noncomputable def zO:Nat->Code:=lpOf Tryz.f112
theorem KQ:aM (aO Tryz.f112)=true:=kr
theorem aCc:FN 112 Tryz.f112 [] Bz56 zO OV false [.tmp 2]:=fN 2 Tryz.func112 KQ
noncomputable def qE:SC:=bC Tryz.f112 0
theorem qZ:ST zO 0 qE:=sT KQ
noncomputable def aCL:SC:=aX Tryz.f116
noncomputable def aJh:Nat->Code:=lpOf Tryz.f116
theorem aI4:aM (aO Tryz.f116)=true:=kr
theorem aIZ:FN 116 Tryz.f116 [] ([]) aJh aCL false [.tmp 4]:=fN 1 Tryz.func116 aI4
noncomputable def aH9:SC:=aX Tryz.f120
noncomputable def aNm:Nat->Code:=lpOf Tryz.f120
theorem aM6:aM (aO Tryz.f120)=true:=kr
theorem aMX:FN 120 Tryz.f120 [] ([]) aNm aH9 false [.tmp 4]:=fN 1 Tryz.func120 aM6
noncomputable def KO:SC:=aX Tryz.f124
noncomputable def Y5:Nat->Code:=lpOf Tryz.f124
theorem aBb:aM (aO Tryz.f124)=true:=kr
theorem aAC:FN 124 Tryz.f124 [] ([]) Y5 KO false [.tmp 2]:=fN 1 Tryz.func124 aBb
noncomputable def IA:SC:=aX Tryz.f125
noncomputable def NH:Nat->Code:=lpOf Tryz.f125
theorem aA9:aM (aO Tryz.f125)=true:=kr
theorem NT:FN 125 Tryz.f125 [] Bz37 NH IA false [.tmp 6]:=fN 1 Tryz.func125 aA9
noncomputable def tT:SC:=bC Tryz.f125 0
theorem rX:ST NH 0 tT:=sT aA9
noncomputable def eK:SC:=aX Tryz.f128
noncomputable def n7:Nat->Code:=lpOf Tryz.f128
theorem nQ:aM (aO Tryz.f128)=true:=kr
theorem hJ:FN 128 Tryz.f128 [] ([]) n7 eK false [.tmp 4]:=fN 1 Tryz.func128 nQ
noncomputable def IV:SC:=aX Tryz.f129
noncomputable def XI:Nat->Code:=lpOf Tryz.f129
theorem YE:aM (aO Tryz.f129)=true:=kr
theorem W9:FN 129 Tryz.f129 [] ([]) XI IV false [.tmp 2]:=fN 0 Tryz.func129 YE
noncomputable def aA4:SC:=aX Tryz.f132
noncomputable def JR:Nat->Code:=lpOf Tryz.f132
theorem V5:aM (aO Tryz.f132)=true:=kr
theorem aHZ:FN 132 Tryz.f132 [] Bz52 JR aA4 true [.tmp 2]:=fN 0 Tryz.func132 V5
noncomputable def xR:SC:=bC Tryz.f132 0
theorem yB:ST JR 0 xR:=sT V5
noncomputable def nF:SC:=aX Tryz.f133
noncomputable def aAS:Nat->Code:=lpOf Tryz.f133
theorem aAi:aM (aO Tryz.f133)=true:=kr
theorem qB:FN 133 Tryz.f133 [] ([]) aAS nF false (Tryz.f133.results.toList):=fN 0 Tryz.func133 aAi
noncomputable def dG:SC:=aX Tryz.f134
noncomputable def xY:Nat->Code:=lpOf Tryz.f134
theorem RZ:aM (aO Tryz.f134)=true:=kr
theorem dC:FN 134 Tryz.f134 (W32 (W32 (W16 (W2 (W1 [1002,0,0,0,0,0,0,0,0,0,0,0,0,0,0,0,0,0,0,0,0,0,1002]))))) Bz22 xY dG false (Tryz.f134.results.toList):=fN 0 Tryz.func134 RZ
noncomputable def uJ:SC:=bC Tryz.f134 0
theorem vC:ST xY 0 uJ:=sT RZ
noncomputable def tH:SC:=aX Tryz.f135
noncomputable def GD:Nat->Code:=lpOf Tryz.f135
theorem QT:aM (aO Tryz.f135)=true:=kr
theorem yG:FN 135 Tryz.f135 [] Bz53 GD tH false [.tmp 4]:=fN 0 Tryz.func135 QT
noncomputable def CI:SC:=bC Tryz.f135 0
theorem EY:ST GD 0 CI:=sT QT
noncomputable def tM:SC:=aX Tryz.f136
noncomputable def aFH:Nat->Code:=lpOf Tryz.f136
theorem aFP:aM (aO Tryz.f136)=true:=kr
theorem yI:FN 136 Tryz.f136 [] ([]) aFH tM false (Tryz.f136.results.toList):=fN 0 Tryz.func136 aFP
noncomputable def iB:SC:=aX Tryz.f140
noncomputable def CC:Nat->Code:=lpOf Tryz.f140
theorem O4:aM (aO Tryz.f140)=true:=kr
theorem iL:FN 140 Tryz.f140 [] Bz29 CC iB false (Tryz.f140.results.toList):=fN 0 Tryz.func140 O4
noncomputable def cN:SC:=bC Tryz.f140 0
theorem bV:ST CC 0 cN:=sT O4
noncomputable def gF:SC:=aX Tryz.f141
noncomputable def aD3:Nat->Code:=lpOf Tryz.f141
theorem aD0:aM (aO Tryz.f141)=true:=kr
theorem gH:FN 141 Tryz.f141 (W32 (W32 (W16 (W8 (W4 (W1 [1002])))))) ([]) aD3 gF false (Tryz.f141.results.toList):=fN 0 Tryz.func141 aD0
noncomputable def FA:SC:=aX Tryz.f142
noncomputable def CR:Nat->Code:=lpOf Tryz.f142
theorem OH:aM (aO Tryz.f142)=true:=kr
theorem OW:FN 142 Tryz.f142 [] Bz57 CR FA false [.tmp 2]:=fN 1 Tryz.func142 OH
noncomputable def r8:SC:=bC Tryz.f142 0
theorem s9:ST CR 0 r8:=sT OH
noncomputable def mL:SC:=aX Tryz.f143
noncomputable def RS:Nat->Code:=lpOf Tryz.f143
theorem SG:aM (aO Tryz.f143)=true:=kr
theorem qU:FN 143 Tryz.f143 [] ([]) RS mL false [.tmp 4]:=fN 1 Tryz.func143 SG
noncomputable def JY:SC:=aX Tryz.f144
noncomputable def aGW:Nat->Code:=lpOf Tryz.f144
theorem aFd:aM (aO Tryz.f144)=true:=kr
theorem QA:FN 144 Tryz.f144 [] ([]) aGW JY false [.tmp 4]:=fN 1 Tryz.func144 aFd
noncomputable def eO:SC:=aX Tryz.f146
noncomputable def aEH:Nat->Code:=lpOf Tryz.f146
theorem aFp:aM (aO Tryz.f146)=true:=kr
theorem eL:FN 146 Tryz.f146 [] ([]) aEH eO false (Tryz.f146.results.toList):=fN 0 Tryz.func146 aFp
noncomputable def DX:SC:=aX Tryz.f147
noncomputable def aHE:Nat->Code:=lpOf Tryz.f147
theorem aHe:aM (aO Tryz.f147)=true:=kr
theorem J0:FN 147 Tryz.f147 [] ([]) aHE DX false (Tryz.f147.results.toList):=fN 0 Tryz.func147 aHe
noncomputable def RL:SC:=aX Tryz.f148
noncomputable def CJ:Nat->Code:=lpOf Tryz.f148
theorem PG:aM (aO Tryz.f148)=true:=kr
theorem aEo:FN 148 Tryz.f148 [] Bz58 CJ RL false (Tryz.f148.results.toList):=fN 2 Tryz.func148 PG
noncomputable def rZ:SC:=bC Tryz.f148 0
theorem sZ:ST CJ 0 rZ:=sT PG
noncomputable def AX:SC:=aX Tryz.f149
noncomputable def pP:Nat->Code:=lpOf Tryz.f149
theorem yQ:aM (aO Tryz.f149)=true:=kr
theorem PQ:FN 149 Tryz.f149 [] Bz24 pP AX false [.tmp 11]:=fN 0 Tryz.func149 yQ
noncomputable def oC:SC:=bC Tryz.f149 0
theorem sP:ST pP 0 oC:=sT yQ
noncomputable def LF:SC:=aX Tryz.f150
noncomputable def eW:Nat->Code:=lpOf Tryz.f150
theorem qF:aM (aO Tryz.f150)=true:=kr
theorem aAR:FN 150 Tryz.f150 (W8 (W4 (W2 [2]))) Bz0 eW LF false [.tmp 8]:=fN 0 Tryz.func150 qF
noncomputable def oQ:SC:=bC Tryz.f150 0
theorem pN:ST eW 0 oQ:=sT qF
noncomputable def kX:SC:=bC Tryz.f150 1
theorem lC:ST eW 1 kX:=sT qF
noncomputable def kY:SC:=bC Tryz.f150 2
theorem lB:ST eW 2 kY:=sT qF
noncomputable def qP:SC:=aX Tryz.f151
noncomputable def PN:Nat->Code:=lpOf Tryz.f151
theorem PU:aM (aO Tryz.f151)=true:=kr
theorem yX:FN 151 Tryz.f151 [] ([]) PN qP false [.tmp 6]:=fN 0 Tryz.func151 PU
noncomputable def t8:SC:=aX Tryz.f152
noncomputable def jC:Nat->Code:=lpOf Tryz.f152
theorem r7:aM (aO Tryz.f152)=true:=kr
theorem zU:FN 152 Tryz.f152 (W16 (W2 [2])) Bz3 jC t8 false [.tmp 10,.tmp 11]:=fN 1 Tryz.func152 r7
noncomputable def lO:SC:=bC Tryz.f152 0
theorem lT:ST jC 0 lO:=sT r7
noncomputable def qG:SC:=bC Tryz.f152 1
theorem rF:ST jC 1 qG:=sT r7
noncomputable def xD:SC:=bC Tryz.f152 2
theorem AW:ST jC 2 xD:=sT r7
noncomputable def LZ:SC:=aX Tryz.f153
noncomputable def yE:Nat->Code:=lpOf Tryz.f153
theorem G9:aM (aO Tryz.f153)=true:=kr
theorem ZG:FN 153 Tryz.f153 [] Bz48 yE LZ false [.tmp 2]:=fN 1 Tryz.func153 G9
noncomputable def uX:SC:=bC Tryz.f153 0
theorem yN:ST yE 0 uX:=sT G9
noncomputable def WH:SC:=aX Tryz.f154
noncomputable def qY:Nat->Code:=lpOf Tryz.f154
theorem GW:aM (aO Tryz.f154)=true:=kr
theorem aEN:FN 154 Tryz.f154 [] Bz40 qY WH false [.tmp 2]:=fN 2 Tryz.func154 GW
noncomputable def CD:SC:=bC Tryz.f154 0
theorem GC:ST qY 0 CD:=sT GW
noncomputable def CL:SC:=bC Tryz.f154 1
theorem F0:ST qY 1 CL:=sT GW
noncomputable def VR:SC:=aX Tryz.f155
noncomputable def qO:Nat->Code:=lpOf Tryz.f155
theorem GS:aM (aO Tryz.f155)=true:=kr
theorem aGM:FN 155 Tryz.f155 [] Bz16 qO VR false [.tmp 6]:=fN 2 Tryz.func155 GS
noncomputable def B0:SC:=bC Tryz.f155 0
theorem F4:ST qO 0 B0:=sT GS
noncomputable def CF:SC:=bC Tryz.f155 1
theorem FR:ST qO 1 CF:=sT GS
noncomputable def pJ:SC:=aX Tryz.f156
noncomputable def aFM:Nat->Code:=lpOf Tryz.f156
theorem aGh:aM (aO Tryz.f156)=true:=kr
theorem qX:FN 156 Tryz.f156 [] (Z2 (U1 (Z2 (Z1 (U2 (Z32 (Z16 (Z8 ([]))))))))) aFM pJ false [.tmp 6]:=fN 1 Tryz.func156 aGh
noncomputable def RY:SC:=aX Tryz.f157
noncomputable def CP:Nat->Code:=lpOf Tryz.f157
theorem OC:aM (aO Tryz.f157)=true:=kr
theorem aEA:FN 157 Tryz.f157 [] Bz54 CP RY false [.tmp 4]:=fN 2 Tryz.func157 OC
noncomputable def z4:SC:=bC Tryz.f157 0
theorem C9:ST CP 0 z4:=sT OC
noncomputable def ZQ:SC:=aX Tryz.f158
noncomputable def pL:Nat->Code:=lpOf Tryz.f158
theorem JX:aM (aO Tryz.f158)=true:=kr
theorem aHb:FN 158 Tryz.f158 [] Bz20 pL ZQ false []:=fN 0 Tryz.func158 JX
noncomputable def x5:SC:=bC Tryz.f158 0
theorem xO:ST pL 0 x5:=sT JX
noncomputable def rJ:SC:=bC Tryz.f158 1
theorem qC:ST pL 1 rJ:=sT JX
noncomputable def RB:SC:=aX Tryz.f159
noncomputable def CO:Nat->Code:=lpOf Tryz.f159
theorem OY:aM (aO Tryz.f159)=true:=kr
theorem aDX:FN 159 Tryz.f159 [] Bz62 CO RB false [.tmp 4]:=fN 1 Tryz.func159 OY
noncomputable def zK:SC:=bC Tryz.f159 0
theorem DC:ST CO 0 zK:=sT OY
noncomputable def P7:SC:=aX Tryz.f160
noncomputable def o8:Nat->Code:=lpOf Tryz.f160
theorem CN:aM (aO Tryz.f160)=true:=kr
theorem aDZ:FN 160 Tryz.f160 [] Bz23 o8 P7 false [.tmp 10]:=fN 2 Tryz.func160 CN
noncomputable def z8:SC:=bC Tryz.f160 0
theorem CW:ST o8 0 z8:=sT CN
noncomputable def nH:SC:=bC Tryz.f160 1
theorem mP:ST o8 1 nH:=sT CN
noncomputable def YS:SC:=aX Tryz.f161
noncomputable def aHL:Nat->Code:=lpOf Tryz.f161
theorem aHc:aM (aO Tryz.f161)=true:=kr
theorem aHY:FN 161 Tryz.f161 [] ([]) aHL YS false [.tmp 2]:=fN 1 Tryz.func161 aHc
noncomputable def wT:SC:=aX Tryz.f169
noncomputable def aEt:Nat->Code:=lpOf Tryz.f169
theorem aD8:aM (aO Tryz.f169)=true:=kr
theorem CH:FN 169 Tryz.f169 [] ([]) aEt wT false [.tmp 4]:=fN 1 Tryz.func169 aD8
noncomputable def VG:SC:=aX Tryz.f180
noncomputable def FE:Nat->Code:=lpOf Tryz.f180
theorem RW:aM (aO Tryz.f180)=true:=kr
theorem aFK:FN 180 Tryz.f180 [0,0,0,2] Bz63 FE VG false [.tmp 2]:=fN 2 Tryz.func180 RW
noncomputable def uN:SC:=bC Tryz.f180 0
theorem u6:ST FE 0 uN:=sT RW
noncomputable def VQ:SC:=aX Tryz.f185
noncomputable def xM:Nat->Code:=lpOf Tryz.f185
theorem TB:aM (aO Tryz.f185)=true:=kr
theorem aFo:FN 185 Tryz.f185 [] Bz28 xM VQ false [.tmp 2]:=fN 2 Tryz.func185 TB
noncomputable def CQ:SC:=bC Tryz.f185 0
theorem GQ:ST xM 0 CQ:=sT TB
noncomputable def fC:SC:=aX Tryz.f193
noncomputable def eY:Nat->Code:=lpOf Tryz.f193
theorem jE:aM (aO Tryz.f193)=true:=kr
theorem jG:FN 193 Tryz.f193 [] Bz59 eY fC false [.tmp 4]:=fN 1 Tryz.func193 jE
noncomputable def dD:SC:=bC Tryz.f193 0
theorem eF:ST eY 0 dD:=sT jE
noncomputable def U7:SC:=aX Tryz.f194
noncomputable def aEG:Nat->Code:=lpOf Tryz.f194
theorem aGf:aM (aO Tryz.f194)=true:=kr
theorem aFZ:FN 194 Tryz.f194 [] ([]) aEG U7 false (Tryz.f194.results.toList):=fN 0 Tryz.func194 aGf
noncomputable def aBl:SC:=aX Tryz.f195
noncomputable def aH0:Nat->Code:=lpOf Tryz.f195
theorem aHp:aM (aO Tryz.f195)=true:=kr
theorem aHn:FN 195 Tryz.f195 [] ([]) aH0 aBl false [.tmp 2]:=fN 0 Tryz.func195 aHp
noncomputable def ZS:SC:=aX Tryz.f196
noncomputable def pF:Nat->Code:=lpOf Tryz.f196
theorem JW:aM (aO Tryz.f196)=true:=kr
theorem aHr:FN 196 Tryz.f196 [] Bz9 pF ZS false (Tryz.f196.results.toList):=fN 0 Tryz.func196 JW
noncomputable def FK:SC:=bC Tryz.f196 0
theorem HQ:ST pF 0 FK:=sT JW
noncomputable def EU:SC:=bC Tryz.f196 1
theorem H1:ST pF 1 EU:=sT JW
noncomputable def MY:SC:=aX Tryz.f197
noncomputable def aHu:Nat->Code:=lpOf Tryz.f197
theorem aHP:aM (aO Tryz.f197)=true:=kr
theorem U5:FN 197 Tryz.f197 [] ([]) aHu MY false (Tryz.f197.results.toList):=fN 0 Tryz.func197 aHP
noncomputable def NY:SC:=aX Tryz.f198
noncomputable def pD:Nat->Code:=lpOf Tryz.f198
theorem WI:aM (aO Tryz.f198)=true:=kr
theorem VP:FN 198 Tryz.f198 (W16 (W8 (W4 [1002]))) Bz13 pD NY true (Tryz.f198.results.toList):=fN 2 Tryz.func198 WI
noncomputable def rE:SC:=bC Tryz.f198 0
theorem qI:ST pD 0 rE:=sT WI
noncomputable def JD:SC:=aX Tryz.f206
noncomputable def XN:Nat->Code:=lpOf Tryz.f206
theorem X8:aM (aO Tryz.f206)=true:=kr
theorem YC:FN 206 Tryz.f206 [] ([]) XN JD false [.tmp 2]:=fN 1 Tryz.func206 X8
noncomputable def R4:SC:=aX Tryz.f207
noncomputable def aEh:Nat->Code:=lpOf Tryz.f207
theorem aEp:aM (aO Tryz.f207)=true:=kr
theorem aEm:FN 207 Tryz.f207 [] ([]) aEh R4 false [.tmp 4]:=fN 0 Tryz.func207 aEp
noncomputable def FU:SC:=aX Tryz.f209
noncomputable def j1:Nat->Code:=lpOf Tryz.f209
theorem uG:aM (aO Tryz.f209)=true:=kr
theorem OX:FN 209 Tryz.f209 [] Bz10 j1 FU false (Tryz.f209.results.toList):=fN 0 Tryz.func209 uG
noncomputable def zI:SC:=bC Tryz.f209 0
theorem DD:ST j1 0 zI:=sT uG
noncomputable def zE:SC:=bC Tryz.f209 1
theorem DG:ST j1 1 zE:=sT uG
noncomputable def mZ:SC:=bC Tryz.f209 2
theorem mN:ST j1 2 mZ:=sT uG
noncomputable def n4:SC:=aX Tryz.f210
noncomputable def mT:Nat->Code:=lpOf Tryz.f210
theorem C3:aM (aO Tryz.f210)=true:=kr
theorem s5:FN 210 Tryz.f210 (W8 (W2 [2])) Bz8 mT n4 false [.tmp 9]:=fN 0 Tryz.func210 C3
noncomputable def cT:SC:=bC Tryz.f210 0
theorem cJ:ST mT 0 cT:=sT C3
noncomputable def QQ:SC:=aX Tryz.f211
noncomputable def CK:Nat->Code:=lpOf Tryz.f211
theorem OE:aM (aO Tryz.f211)=true:=kr
theorem aEi:FN 211 Tryz.f211 [0,0,0,2] Bz44 CK QQ false [.tmp 2]:=fN 1 Tryz.func211 OE
noncomputable def zZ:SC:=bC Tryz.f211 0
theorem DH:ST CK 0 zZ:=sT OE
noncomputable def WC:SC:=aX Tryz.f212
noncomputable def kZ:Nat->Code:=lpOf Tryz.f212
theorem yL:aM (aO Tryz.f212)=true:=kr
theorem aGA:FN 212 Tryz.f212 [] Bz5 kZ WC false [.tmp 8]:=fN 2 Tryz.func212 yL
noncomputable def CA:SC:=bC Tryz.f212 0
theorem FF:ST kZ 0 CA:=sT yL
noncomputable def CT:SC:=bC Tryz.f212 1
theorem F9:ST kZ 1 CT:=sT yL
noncomputable def CM:SC:=bC Tryz.f212 2
theorem FZ:ST kZ 2 CM:=sT yL
noncomputable def aGx:SC:=aX Tryz.f213
noncomputable def aJ1:Nat->Code:=lpOf Tryz.f213
theorem aLc:aM (aO Tryz.f213)=true:=kr
theorem aK2:FN 213 Tryz.f213 [] ([]) aJ1 aGx false [.tmp 6]:=fN 1 Tryz.func213 aLc
noncomputable def M9:SC:=aX Tryz.f214
noncomputable def tK:Nat->Code:=lpOf Tryz.f214
theorem JT:aM (aO Tryz.f214)=true:=kr
theorem VA:FN 214 Tryz.f214 [] Bz17 tK M9 false [.tmp 6]:=fN 1 Tryz.func214 JT
noncomputable def yJ:SC:=bC Tryz.f214 0
theorem wZ:ST tK 0 yJ:=sT JT
noncomputable def xV:SC:=bC Tryz.f214 1
theorem xU:ST tK 1 xV:=sT JT
noncomputable def YI:SC:=aX Tryz.f215
noncomputable def Q3:Nat->Code:=lpOf Tryz.f215
theorem aC4:aM (aO Tryz.f215)=true:=kr
theorem aDO:FN 215 Tryz.f215 [] Bz66 Q3 YI false [.tmp 4]:=fN 1 Tryz.func215 aC4
noncomputable def DZ:SC:=bC Tryz.f215 0
theorem B4:ST Q3 0 DZ:=sT aC4
theorem zM{L n:Nat}{args:List A}{h:H}:aA env L (n+1) 240 args h=gCtz args h:=by
 have:env.prim 240=some (gCtz):=kr;simp only[aA,this]
noncomputable def SJ:SC:=aX Tryz.f247
noncomputable def jZ:Nat->Code:=lpOf Tryz.f247
theorem CE:aM (aO Tryz.f247)=true:=kr
theorem aEq:FN 247 Tryz.f247 (W32 (W4 (W1 [1002]))) Bz4 jZ SJ true (Tryz.f247.results.toList):=fN 0 Tryz.func247 CE
noncomputable def rR:SC:=bC Tryz.f247 0
theorem s8:ST jZ 0 rR:=sT CE
noncomputable def nD:SC:=bC Tryz.f247 1
theorem mQ:ST jZ 1 nD:=sT CE
noncomputable def oZ:SC:=aX Tryz.f251
noncomputable def fZ:Nat->Code:=lpOf Tryz.f251
theorem nM:aM (aO Tryz.f251)=true:=kr
theorem AU:FN 251 Tryz.f251 [] Bz45 fZ oZ false []:=fN 0 Tryz.func251 nM
noncomputable def fO:SC:=bC Tryz.f251 0
theorem gU:ST fZ 0 fO:=sT nM
noncomputable def uL:SC:=aX Tryz.f252
noncomputable def zQ:Nat->Code:=lpOf Tryz.f252
theorem LH:aM (aO Tryz.f252)=true:=kr
theorem zF:FN 252 Tryz.f252 [] Bz43 zQ uL false [.tmp 8]:=fN 2 Tryz.func252 LH
noncomputable def lK:SC:=bC Tryz.f252 0
theorem lN:ST zQ 0 lK:=sT LH
noncomputable def XW:SC:=aX Tryz.f270
noncomputable def aJU:Nat->Code:=lpOf Tryz.f270
theorem aLD:aM (aO Tryz.f270)=true:=kr
theorem aDU:FN 270 Tryz.f270 [] ([]) aJU XW false [.tmp 6]:=fN 1 Tryz.func270 aLD
noncomputable def WA:SC:=aX Tryz.f275
noncomputable def E9:Nat->Code:=lpOf Tryz.f275
theorem RI:aM (aO Tryz.f275)=true:=kr
theorem aGu:FN 275 Tryz.f275 [] Bz60 E9 WA false [.tmp 4]:=fN 1 Tryz.func275 RI
noncomputable def t9:SC:=bC Tryz.f275 0
theorem vH:ST E9 0 t9:=sT RI
end
end Ev
end Go.Proofs.YtahbdkmimmnadaaGreatDoor
