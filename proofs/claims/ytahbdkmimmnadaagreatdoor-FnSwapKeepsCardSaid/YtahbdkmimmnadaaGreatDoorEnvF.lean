/-
  Each function's code as an equation. Written by a program.
-/
import Derived.Test.YtahbdkmimmnadaaGreatDoorEnv
set_option linter.unusedSimpArgs false
set_option linter.unusedVariables false
set_option linter.unusedSectionVars false
set_option maxRecDepth 100000
namespace Go.Proofs.YtahbdkmimmnadaaGreatDoor
namespace Ev
abbrev FN(f:Nat)(fn:Func)(th:List Nat)(lv:List Bool)(lp:Nat->Code)(S:SC)(e:Bool)(rs:List ResultVar):Prop:=∀(L n:Nat) (args:List A) (h:H),aA env L (n+1) f args h=dG env (aA env L n) L h.length th lv lp S (args++List.replicate (fn.ntmps-args.length) (.d .undef)) h (kFin env.P h.length e rs)
theorem fN (mode : Nat) {f : Nat} {fn : Func} {e : Bool} {th : List Nat} {lv : List Bool} {rs : List ResultVar} (hf : env.P.funcs[f]? = some fn) (hd : aM (aN fn) = true) (hp : (env.prim f).isNone = true := by kernel_rfl) (hb : fn.body.isSome = true := by kernel_rfl) (hn : (fn.name == "runtime.NumGoroutine") = false := by kernel_rfl) (hh : env.hint f = ⟨mode, e, th, lv⟩ := by kernel_rfl) (hr : fn.results.toList = rs := by kernel_rfl) : FN f fn th lv (lpOf fn) (aV fn) e rs := fun _ _ _ _ => VV hp hf hb hn hd hh hr
abbrev ST(lp:Nat->Code)(i:Nat)(S:SC):Prop:=∀(R:Type) (call:aX) (L nf n:Nat) (thaw:List Nat) (live m:List Bool) (s:List A) (h:H) (k:KE R),aS env call L nf thaw live (lp i) m (n+1) s h k=dG env call L nf thaw live lp S s h (XA env call L nf thaw live (lp i) m n k)
theorem sT{fn:Func}{i:Nat}(hd:aM (aN fn)=true)(hi:((bS (aN fn))[i]?).isSome=true:=by kernel_rfl):ST (lpOf fn) i (bB fn i):=fun _ _ _ _ _ _ _ _ _ _ _=>aCv hd hi
section
variable{R:Type}{call:aX}{L nf n:Nat}{thaw:List Nat}{live m:List Bool}{s args:List A}{h:H}{k:KE R}
noncomputable def iN:SC:=aV Tryz.f6
noncomputable def BH:Nat->Code:=lpOf Tryz.f6
theorem OV:aM (aN Tryz.f6)=true:=kr
theorem jD:FN 6 Tryz.f6 [] Bz26 BH iN false [.tmp 4]:=fN 1 Tryz.func6 OV
noncomputable def qU:SC:=bB Tryz.f6 0
theorem sJ:ST BH 0 qU:=sT OV
noncomputable def uB:SC:=aV Tryz.f25
noncomputable def sA:Nat->Code:=lpOf Tryz.f25
theorem DQ:aM (aN Tryz.f25)=true:=kr
theorem C5:FN 25 Tryz.f25 [] Bz52 sA uB false [.tmp 2]:=fN 1 Tryz.func25 DQ
noncomputable def qD:SC:=bB Tryz.f25 0
theorem vD:ST sA 0 qD:=sT DQ
noncomputable def uZ:SC:=aV Tryz.f27
noncomputable def JM:Nat->Code:=lpOf Tryz.f27
theorem JH:aM (aN Tryz.f27)=true:=kr
theorem JI:FN 27 Tryz.f27 [] ([]) JM uZ false (Tryz.f27.results.toList):=fN 2 Tryz.func27 JH
noncomputable def DP:SC:=aV Tryz.f28
noncomputable def SM:Nat->Code:=lpOf Tryz.f28
theorem R6:aM (aN Tryz.f28)=true:=kr
theorem R7:FN 28 Tryz.f28 [] ([]) SM DP false (Tryz.f28.results.toList):=fN 2 Tryz.func28 R6
noncomputable def lW:SC:=aV Tryz.f29
noncomputable def SI:Nat->Code:=lpOf Tryz.f29
theorem SF:aM (aN Tryz.f29)=true:=kr
theorem qE:FN 29 Tryz.f29 [] ([]) SI lW false [.tmp 4,.tmp 5]:=fN 1 Tryz.func29 SF
noncomputable def lT:SC:=aV Tryz.f30
noncomputable def SH:Nat->Code:=lpOf Tryz.f30
theorem SA:aM (aN Tryz.f30)=true:=kr
theorem qH:FN 30 Tryz.f30 [] ([]) SH lT false [.tmp 4,.tmp 5]:=fN 1 Tryz.func30 SA
noncomputable def fD:SC:=aV Tryz.f31
noncomputable def iZ:Nat->Code:=lpOf Tryz.f31
theorem p8:aM (aN Tryz.f31)=true:=kr
theorem f0:FN 31 Tryz.f31 [] Bz8 iZ fD false [.tmp 2]:=fN 1 Tryz.func31 p8
noncomputable def iC:SC:=bB Tryz.f31 0
theorem iT:ST iZ 0 iC:=sT p8
noncomputable def gZ:SC:=bB Tryz.f31 1
theorem iS:ST iZ 1 gZ:=sT p8
noncomputable def lG:SC:=aV Tryz.f32
noncomputable def m3:Nat->Code:=lpOf Tryz.f32
theorem FH:aM (aN Tryz.f32)=true:=kr
theorem m6:FN 32 Tryz.f32 [] Bz17 m3 lG false [.tmp 6]:=fN 1 Tryz.func32 FH
noncomputable def rT:SC:=bB Tryz.f32 0
theorem xC:ST m3 0 rT:=sT FH
noncomputable def ND:SC:=aV Tryz.f33
noncomputable def qS:Nat->Code:=lpOf Tryz.f33
theorem KJ:aM (aN Tryz.f33)=true:=kr
theorem aBD:FN 33 Tryz.f33 [] Bz7 qS ND false (Tryz.f33.results.toList):=fN 2 Tryz.func33 KJ
noncomputable def wR:SC:=bB Tryz.f33 0
theorem AV:ST qS 0 wR:=sT KJ
noncomputable def kC:SC:=aV Tryz.f34
noncomputable def jQ:Nat->Code:=lpOf Tryz.f34
theorem r6:aM (aN Tryz.f34)=true:=kr
theorem mA:FN 34 Tryz.f34 (W8 (W2 (W1 [2]))) Bz6 jQ kC false (Tryz.f34.results.toList):=fN 2 Tryz.func34 r6
noncomputable def lK:SC:=bB Tryz.f34 0
theorem mT:ST jQ 0 lK:=sT r6
noncomputable def qJ:SC:=bB Tryz.f34 1
theorem uX:ST jQ 1 qJ:=sT r6
noncomputable def I6:SC:=aV Tryz.f35
noncomputable def t7:Nat->Code:=lpOf Tryz.f35
theorem FC:aM (aN Tryz.f35)=true:=kr
theorem X3:FN 35 Tryz.f35 [] Bz36 t7 I6 false [.tmp 4]:=fN 1 Tryz.func35 FC
noncomputable def rW:SC:=bB Tryz.f35 0
theorem xD:ST t7 0 rW:=sT FC
noncomputable def rK:SC:=aV Tryz.f36
noncomputable def D9:Nat->Code:=lpOf Tryz.f36
theorem RY:aM (aN Tryz.f36)=true:=kr
theorem vR:FN 36 Tryz.f36 [] Bz33 D9 rK false [.tmp 6]:=fN 1 Tryz.func36 RY
noncomputable def A7:SC:=bB Tryz.f36 0
theorem EX:ST D9 0 A7:=sT RY
noncomputable def CN:SC:=aV Tryz.f37
noncomputable def SP:Nat->Code:=lpOf Tryz.f37
theorem SE:aM (aN Tryz.f37)=true:=kr
theorem SS:FN 37 Tryz.f37 [] ([]) SP CN false [.tmp 4]:=fN 1 Tryz.func37 SE
noncomputable def j9:SC:=aV Tryz.f55
noncomputable def sG:Nat->Code:=lpOf Tryz.f55
theorem B9:aM (aN Tryz.f55)=true:=kr
theorem mH:FN 55 Tryz.f55 [] Bz57 sG j9 false [.tmp 2]:=fN 1 Tryz.func55 B9
noncomputable def iX:SC:=bB Tryz.f55 0
theorem jJ:ST sG 0 iX:=sT B9
noncomputable def fA:SC:=aV Tryz.f56
noncomputable def pY:Nat->Code:=lpOf Tryz.f56
theorem AM:aM (aN Tryz.f56)=true:=kr
theorem fZ:FN 56 Tryz.f56 [] Bz68 pY fA false [.tmp 2]:=fN 1 Tryz.func56 AM
noncomputable def kK:SC:=bB Tryz.f56 0
theorem lM:ST pY 0 kK:=sT AM
noncomputable def yE:SC:=aV Tryz.f62
noncomputable def aGm:Nat->Code:=lpOf Tryz.f62
theorem aGE:aM (aN Tryz.f62)=true:=kr
theorem EC:FN 62 Tryz.f62 [] ([]) aGm yE false [.tmp 2]:=fN 1 Tryz.func62 aGE
noncomputable def MI:SC:=aV Tryz.f70
noncomputable def aHr:Nat->Code:=lpOf Tryz.f70
theorem aIT:aM (aN Tryz.f70)=true:=kr
theorem TS:FN 70 Tryz.f70 [] ([]) aHr MI true [.tmp 2]:=fN 2 Tryz.func70 aIT
noncomputable def vC:SC:=aV Tryz.f71
noncomputable def aIt:Nat->Code:=lpOf Tryz.f71
theorem aI2:aM (aN Tryz.f71)=true:=kr
theorem zN:FN 71 Tryz.f71 [] ([]) aIt vC false (Tryz.f71.results.toList):=fN 0 Tryz.func71 aI2
noncomputable def m9:SC:=aV Tryz.f72
noncomputable def aBO:Nat->Code:=lpOf Tryz.f72
theorem aCV:aM (aN Tryz.f72)=true:=kr
theorem qK:FN 72 Tryz.f72 [] ([]) aBO m9 false [.tmp 4]:=fN 0 Tryz.func72 aCV
noncomputable def QO:SC:=aV Tryz.f74
noncomputable def aDE:Nat->Code:=lpOf Tryz.f74
theorem aEq:aM (aN Tryz.f74)=true:=kr
theorem aEr:FN 74 Tryz.f74 [] ([]) aDE QO false [.tmp 4]:=fN 0 Tryz.func74 aEq
noncomputable def n8:SC:=aV Tryz.f76
noncomputable def FE:Nat->Code:=lpOf Tryz.f76
theorem FB:aM (aN Tryz.f76)=true:=kr
theorem YF:FN 76 Tryz.f76 [] ([]) FE n8 false [.tmp 4]:=fN 1 Tryz.func76 FB
noncomputable def jX:SC:=aV Tryz.f77
noncomputable def n5:Nat->Code:=lpOf Tryz.f77
theorem IO:aM (aN Tryz.f77)=true:=kr
theorem k9:FN 77 Tryz.f77 [] Bz16 n5 jX false [.tmp 2]:=fN 1 Tryz.func77 IO
noncomputable def cP:SC:=bB Tryz.f77 0
theorem cE:ST n5 0 cP:=sT IO
noncomputable def TJ:SC:=aV Tryz.f80
noncomputable def aL5:Nat->Code:=lpOf Tryz.f80
theorem aL3:aM (aN Tryz.f80)=true:=kr
theorem aCQ:FN 80 Tryz.f80 [] ([]) aL5 TJ false (Tryz.f80.results.toList):=fN 0 Tryz.func80 aL3
noncomputable def zL:SC:=aV Tryz.f81
noncomputable def aJz:Nat->Code:=lpOf Tryz.f81
theorem aJG:aM (aN Tryz.f81)=true:=kr
theorem BY:FN 81 Tryz.f81 [] ([]) aJz zL false [.tmp 2,.tmp 3]:=fN 0 Tryz.func81 aJG
noncomputable def J4:SC:=aV Tryz.f82
noncomputable def aAS:Nat->Code:=lpOf Tryz.f82
theorem aAZ:aM (aN Tryz.f82)=true:=kr
theorem aAv:FN 82 Tryz.f82 [] ([]) aAS J4 false [.tmp 6,.tmp 7]:=fN 1 Tryz.func82 aAZ
noncomputable def B7:SC:=aV Tryz.f83
noncomputable def eA:Nat->Code:=lpOf Tryz.f83
theorem sC:aM (aN Tryz.f83)=true:=kr
theorem IU:FN 83 Tryz.f83 [] Bz2 eA B7 false [.tmp 2,.tmp 3]:=fN 1 Tryz.func83 sC
noncomputable def ED:SC:=bB Tryz.f83 0
theorem HT:ST eA 0 ED:=sT sC
noncomputable def vH:SC:=bB Tryz.f83 1
theorem wP:ST eA 1 vH:=sT sC
noncomputable def pG:SC:=bB Tryz.f83 2
theorem n7:ST eA 2 pG:=sT sC
noncomputable def pH:SC:=bB Tryz.f83 3
theorem oL:ST eA 3 pH:=sT sC
noncomputable def N3:SC:=aV Tryz.f84
noncomputable def aDs:Nat->Code:=lpOf Tryz.f84
theorem aBB:aM (aN Tryz.f84)=true:=kr
theorem aDh:FN 84 Tryz.f84 [] ([]) aDs N3 false [.tmp 2]:=fN 1 Tryz.func84 aBB
noncomputable def RK:SC:=aV Tryz.f85
noncomputable def s8:Nat->Code:=lpOf Tryz.f85
theorem N6:aM (aN Tryz.f85)=true:=kr
theorem aD0:FN 85 Tryz.f85 [0,0,0,2] Bz32 s8 RK false [.tmp 2]:=fN 2 Tryz.func85 N6
noncomputable def qY:SC:=bB Tryz.f85 0
theorem rI:ST s8 0 qY:=sT N6
noncomputable def TU:SC:=aV Tryz.f86
noncomputable def aGT:Nat->Code:=lpOf Tryz.f86
theorem aGA:aM (aN Tryz.f86)=true:=kr
theorem aGf:FN 86 Tryz.f86 [] ([]) aGT TU false [.tmp 2]:=fN 1 Tryz.func86 aGA
noncomputable def YR:SC:=aV Tryz.f87
noncomputable def aI5:Nat->Code:=lpOf Tryz.f87
theorem aIK:aM (aN Tryz.f87)=true:=kr
theorem aIB:FN 87 Tryz.f87 [] ([]) aI5 YR false [.tmp 6]:=fN 1 Tryz.func87 aIK
theorem uD{L n:Nat}{args:List A}{h:H}:aA env L (n+1) 88 args h=HM 76 args h:=by
 have:env.prim 88=some (HM 76):=kr;simp only[aA,this]
noncomputable def MR:SC:=aV Tryz.f89
noncomputable def eU:Nat->Code:=lpOf Tryz.f89
theorem y4:aM (aN Tryz.f89)=true:=kr
theorem WP:FN 89 Tryz.f89 [] Bz1 eU MR false [.tmp 2]:=fN 2 Tryz.func89 y4
noncomputable def pD:SC:=bB Tryz.f89 0
theorem oF:ST eU 0 pD:=sT y4
noncomputable def pB:SC:=bB Tryz.f89 1
theorem o6:ST eU 1 pB:=sT y4
noncomputable def vM:SC:=bB Tryz.f89 2
theorem wH:ST eU 2 vM:=sT y4
theorem CS{L n:Nat}{args:List A}{h:H}:aA env L (n+1) 90 args h=HK 1 args h:=by
 have:env.prim 90=some (HK 1):=kr;simp only[aA,this]
noncomputable def nN:SC:=aV Tryz.f91
noncomputable def yU:Nat->Code:=lpOf Tryz.f91
theorem L0:aM (aN Tryz.f91)=true:=kr
theorem qT:FN 91 Tryz.f91 [] Bz53 yU nN false [.tmp 4]:=fN 1 Tryz.func91 L0
noncomputable def oI:SC:=bB Tryz.f91 0
theorem qC:ST yU 0 oI:=sT L0
noncomputable def JB:SC:=aV Tryz.f92
noncomputable def aGu:Nat->Code:=lpOf Tryz.f92
theorem aGG:aM (aN Tryz.f92)=true:=kr
theorem RS:FN 92 Tryz.f92 [] ([]) aGu JB false [.tmp 4]:=fN 1 Tryz.func92 aGG
noncomputable def UT:SC:=aV Tryz.f93
noncomputable def D6:Nat->Code:=lpOf Tryz.f93
theorem R3:aM (aN Tryz.f93)=true:=kr
theorem aGi:FN 93 Tryz.f93 (W4 (W1 [2])) Bz69 D6 UT false [.tmp 4]:=fN 1 Tryz.func93 R3
noncomputable def tE:SC:=bB Tryz.f93 0
theorem uF:ST D6 0 tE:=sT R3
noncomputable def QT:SC:=aV Tryz.f94
noncomputable def aEl:Nat->Code:=lpOf Tryz.f94
theorem aEj:aM (aN Tryz.f94)=true:=kr
theorem aEo:FN 94 Tryz.f94 [] ([]) aEl QT false [.tmp 2]:=fN 1 Tryz.func94 aEj
noncomputable def OH:SC:=aV Tryz.f95
noncomputable def aBU:Nat->Code:=lpOf Tryz.f95
theorem aBJ:aM (aN Tryz.f95)=true:=kr
theorem aCM:FN 95 Tryz.f95 [] ([]) aBU OH false [.tmp 2]:=fN 1 Tryz.func95 aBJ
noncomputable def VW:SC:=aV Tryz.f96
noncomputable def aGU:Nat->Code:=lpOf Tryz.f96
theorem aGs:aM (aN Tryz.f96)=true:=kr
theorem aGR:FN 96 Tryz.f96 [] ([]) aGU VW false [.tmp 4]:=fN 1 Tryz.func96 aGs
noncomputable def KZ:SC:=aV Tryz.f97
noncomputable def aAL:Nat->Code:=lpOf Tryz.f97
theorem aAR:aM (aN Tryz.f97)=true:=kr
theorem aAy:FN 97 Tryz.f97 [] ([]) aAL KZ false [.tmp 4]:=fN 1 Tryz.func97 aAR
noncomputable def jU:SC:=aV Tryz.f101
noncomputable def oN:Nat->Code:=lpOf Tryz.f101
theorem IV:aM (aN Tryz.f101)=true:=kr
theorem lA:FN 101 Tryz.f101 [] Bz35 oN jU false [.tmp 2]:=fN 1 Tryz.func101 IV
noncomputable def iE:SC:=bB Tryz.f101 0
theorem gW:ST oN 0 iE:=sT IV
noncomputable def lS:SC:=aV Tryz.f102
noncomputable def aJS:Nat->Code:=lpOf Tryz.f102
theorem aKc:aM (aN Tryz.f102)=true:=kr
theorem mJ:FN 102 Tryz.f102 [] ([]) aJS lS false [.tmp 6]:=fN 1 Tryz.func102 aKc
noncomputable def Q4:SC:=aV Tryz.f112
noncomputable def BG:Nat->Code:=lpOf Tryz.f112
theorem OE:aM (aN Tryz.f112)=true:=kr
theorem aDQ:FN 112 Tryz.f112 [] Bz63 BG Q4 false [.tmp 2]:=fN 2 Tryz.func112 OE
noncomputable def rG:SC:=bB Tryz.f112 0
theorem sD:ST BG 0 rG:=sT OE
noncomputable def aEF:SC:=aV Tryz.f116
noncomputable def aL2:Nat->Code:=lpOf Tryz.f116
theorem aMi:aM (aN Tryz.f116)=true:=kr
theorem aLQ:FN 116 Tryz.f116 [] ([]) aL2 aEF false [.tmp 4]:=fN 1 Tryz.func116 aMi
noncomputable def aLe:SC:=aV Tryz.f120
noncomputable def aON:Nat->Code:=lpOf Tryz.f120
theorem aPS:aM (aN Tryz.f120)=true:=kr
theorem aPL:FN 120 Tryz.f120 [] ([]) aON aLe false [.tmp 4]:=fN 1 Tryz.func120 aPS
noncomputable def OP:SC:=aV Tryz.f124
noncomputable def aBy:Nat->Code:=lpOf Tryz.f124
theorem aCs:aM (aN Tryz.f124)=true:=kr
theorem aBz:FN 124 Tryz.f124 [] ([]) aBy OP false [.tmp 2]:=fN 1 Tryz.func124 aCs
noncomputable def K3:SC:=aV Tryz.f125
noncomputable def PJ:Nat->Code:=lpOf Tryz.f125
theorem aCJ:aM (aN Tryz.f125)=true:=kr
theorem PN:FN 125 Tryz.f125 [] Bz40 PJ K3 false [.tmp 6]:=fN 1 Tryz.func125 aCJ
noncomputable def vE:SC:=bB Tryz.f125 0
theorem sQ:ST PJ 0 vE:=sT aCJ
noncomputable def eC:SC:=aV Tryz.f128
noncomputable def oE:Nat->Code:=lpOf Tryz.f128
theorem oB:aM (aN Tryz.f128)=true:=kr
theorem hJ:FN 128 Tryz.f128 [] ([]) oE eC false [.tmp 4]:=fN 1 Tryz.func128 oB
noncomputable def K4:SC:=aV Tryz.f129
noncomputable def aAY:Nat->Code:=lpOf Tryz.f129
theorem aAk:aM (aN Tryz.f129)=true:=kr
theorem aAr:FN 129 Tryz.f129 [] ([]) aAY K4 false [.tmp 2]:=fN 0 Tryz.func129 aAk
noncomputable def aCp:SC:=aV Tryz.f132
noncomputable def MC:Nat->Code:=lpOf Tryz.f132
theorem YK:aM (aN Tryz.f132)=true:=kr
theorem aJV:FN 132 Tryz.f132 [] Bz58 MC aCp true [.tmp 2]:=fN 0 Tryz.func132 YK
noncomputable def yY:SC:=bB Tryz.f132 0
theorem yQ:ST MC 0 yY:=sT YK
noncomputable def nF:SC:=aV Tryz.f133
noncomputable def aCE:Nat->Code:=lpOf Tryz.f133
theorem aCm:aM (aN Tryz.f133)=true:=kr
theorem rB:FN 133 Tryz.f133 [] ([]) aCE nF false (Tryz.f133.results.toList):=fN 0 Tryz.func133 aCm
noncomputable def dC:SC:=aV Tryz.f134
noncomputable def zA:Nat->Code:=lpOf Tryz.f134
theorem VZ:aM (aN Tryz.f134)=true:=kr
theorem c9:FN 134 Tryz.f134 (W32 (W32 (W16 (W2 (W1 [1002,0,0,0,0,0,0,0,0,0,0,0,0,0,0,0,0,0,0,0,0,0,1002]))))) Bz24 zA dC false (Tryz.f134.results.toList):=fN 0 Tryz.func134 VZ
noncomputable def vT:SC:=bB Tryz.f134 0
theorem wN:ST zA 0 vT:=sT VZ
noncomputable def vA:SC:=aV Tryz.f135
noncomputable def HQ:Nat->Code:=lpOf Tryz.f135
theorem TF:aM (aN Tryz.f135)=true:=kr
theorem zK:FN 135 Tryz.f135 [] Bz59 HQ vA false [.tmp 4]:=fN 0 Tryz.func135 TF
noncomputable def EJ:SC:=bB Tryz.f135 0
theorem I5:ST HQ 0 EJ:=sT TF
noncomputable def nU:SC:=aV Tryz.f142
noncomputable def iL:Nat->Code:=lpOf Tryz.f142
theorem vQ:aM (aN Tryz.f142)=true:=kr
theorem QZ:FN 142 Tryz.f142 [] Bz38 iL nU false [.tmp 2]:=fN 1 Tryz.func142 vQ
noncomputable def gO:SC:=bB Tryz.f142 0
theorem tZ:ST iL 0 gO:=sT vQ
noncomputable def eH:SC:=aV Tryz.f143
noncomputable def CX:Nat->Code:=lpOf Tryz.f143
theorem DH:aM (aN Tryz.f143)=true:=kr
theorem rM:FN 143 Tryz.f143 [] ([]) CX eH false [.tmp 4]:=fN 1 Tryz.func143 DH
noncomputable def MG:SC:=aV Tryz.f144
noncomputable def aIk:Nat->Code:=lpOf Tryz.f144
theorem aHm:aM (aN Tryz.f144)=true:=kr
theorem TL:FN 144 Tryz.f144 [] ([]) aIk MG false [.tmp 4]:=fN 1 Tryz.func144 aHm
noncomputable def TR:SC:=aV Tryz.f145
noncomputable def O7:Nat->Code:=lpOf Tryz.f145
theorem aDr:aM (aN Tryz.f145)=true:=kr
theorem aCi:FN 145 Tryz.f145 [] Bz70 O7 TR false (Tryz.f145.results.toList):=fN 0 Tryz.func145 aDr
noncomputable def pQ:SC:=bB Tryz.f145 0
theorem nG:ST O7 0 pQ:=sT aDr
noncomputable def eD:SC:=aV Tryz.f146
noncomputable def aHX:Nat->Code:=lpOf Tryz.f146
theorem aI9:aM (aN Tryz.f146)=true:=kr
theorem eB:FN 146 Tryz.f146 [] ([]) aHX eD false (Tryz.f146.results.toList):=fN 0 Tryz.func146 aI9
noncomputable def FY:SC:=aV Tryz.f147
noncomputable def aJJ:Nat->Code:=lpOf Tryz.f147
theorem aJO:aM (aN Tryz.f147)=true:=kr
theorem MS:FN 147 Tryz.f147 [] ([]) aJJ FY false (Tryz.f147.results.toList):=fN 0 Tryz.func147 aJO
noncomputable def U9:SC:=aV Tryz.f148
noncomputable def D5:Nat->Code:=lpOf Tryz.f148
theorem RX:aM (aN Tryz.f148)=true:=kr
theorem aGz:FN 148 Tryz.f148 [] Bz64 D5 U9 false (Tryz.f148.results.toList):=fN 2 Tryz.func148 RX
noncomputable def sN:SC:=bB Tryz.f148 0
theorem t8:ST D5 0 sN:=sT RX
noncomputable def C4:SC:=aV Tryz.f149
noncomputable def qF:Nat->Code:=lpOf Tryz.f149
theorem z7:aM (aN Tryz.f149)=true:=kr
theorem SL:FN 149 Tryz.f149 [] Bz27 qF C4 false [.tmp 11]:=fN 0 Tryz.func149 z7
noncomputable def oV:SC:=bB Tryz.f149 0
theorem tM:ST qF 0 oV:=sT z7
noncomputable def NH:SC:=aV Tryz.f150
noncomputable def eM:Nat->Code:=lpOf Tryz.f150
theorem qR:aM (aN Tryz.f150)=true:=kr
theorem aCG:FN 150 Tryz.f150 (W8 (W4 (W2 [2]))) Bz0 eM NH false [.tmp 8]:=fN 0 Tryz.func150 qR
noncomputable def oR:SC:=bB Tryz.f150 0
theorem qG:ST eM 0 oR:=sT qR
noncomputable def kZ:SC:=bB Tryz.f150 1
theorem lH:ST eM 1 kZ:=sT qR
noncomputable def lE:SC:=bB Tryz.f150 2
theorem lI:ST eM 2 lE:=sT qR
noncomputable def r7:SC:=aV Tryz.f151
noncomputable def R9:Nat->Code:=lpOf Tryz.f151
theorem SV:aM (aN Tryz.f151)=true:=kr
theorem AL:FN 151 Tryz.f151 [] ([]) R9 r7 false [.tmp 6]:=fN 0 Tryz.func151 SV
noncomputable def vX:SC:=aV Tryz.f152
noncomputable def jB:Nat->Code:=lpOf Tryz.f152
theorem sP:aM (aN Tryz.f152)=true:=kr
theorem BE:FN 152 Tryz.f152 (W16 (W2 [2])) Bz3 jB vX false [.tmp 10,.tmp 11]:=fN 1 Tryz.func152 sP
noncomputable def mC:SC:=bB Tryz.f152 0
theorem mB:ST jB 0 mC:=sT sP
noncomputable def qV:SC:=bB Tryz.f152 1
theorem rP:ST jB 1 qV:=sT sP
noncomputable def yR:SC:=bB Tryz.f152 2
theorem C1:ST jB 2 yR:=sT sP
noncomputable def NZ:SC:=aV Tryz.f153
noncomputable def yA:Nat->Code:=lpOf Tryz.f153
theorem L6:aM (aN Tryz.f153)=true:=kr
theorem aC5:FN 153 Tryz.f153 [] Bz54 yA NZ false [.tmp 2]:=fN 1 Tryz.func153 L6
noncomputable def vY:SC:=bB Tryz.f153 0
theorem AE:ST yA 0 vY:=sT L6
noncomputable def ZH:SC:=aV Tryz.f154
noncomputable def sE:Nat->Code:=lpOf Tryz.f154
theorem IH:aM (aN Tryz.f154)=true:=kr
theorem aHt:FN 154 Tryz.f154 [] Bz44 sE ZH false [.tmp 2]:=fN 2 Tryz.func154 IH
noncomputable def EH:SC:=bB Tryz.f154 0
theorem JD:ST sE 0 EH:=sT IH
noncomputable def EL:SC:=bB Tryz.f154 1
theorem G3:ST sE 1 EL:=sT IH
noncomputable def ZB:SC:=aV Tryz.f155
noncomputable def rV:Nat->Code:=lpOf Tryz.f155
theorem H6:aM (aN Tryz.f155)=true:=kr
theorem aJg:FN 155 Tryz.f155 [] Bz18 rV ZB false [.tmp 6]:=fN 2 Tryz.func155 H6
noncomputable def D4:SC:=bB Tryz.f155 0
theorem G8:ST rV 0 D4:=sT H6
noncomputable def D3:SC:=bB Tryz.f155 1
theorem IT:ST rV 1 D3:=sT H6
noncomputable def pN:SC:=aV Tryz.f156
noncomputable def aG6:Nat->Code:=lpOf Tryz.f156
theorem aIo:aM (aN Tryz.f156)=true:=kr
theorem rR:FN 156 Tryz.f156 [] (Z2 (U1 (Z2 (Z1 (U2 (Z32 (Z16 (Z8 ([]))))))))) aG6 pN false [.tmp 6]:=fN 1 Tryz.func156 aIo
noncomputable def V0:SC:=aV Tryz.f157
noncomputable def EN:Nat->Code:=lpOf Tryz.f157
theorem R1:aM (aN Tryz.f157)=true:=kr
theorem aGK:FN 157 Tryz.f157 [] Bz60 EN V0 false [.tmp 4]:=fN 2 Tryz.func157 R1
noncomputable def A1:SC:=bB Tryz.f157 0
theorem EY:ST EN 0 A1:=sT R1
noncomputable def aBn:SC:=aV Tryz.f158
noncomputable def pT:Nat->Code:=lpOf Tryz.f158
theorem ME:aM (aN Tryz.f158)=true:=kr
theorem aKr:FN 158 Tryz.f158 [] Bz22 pT aBn false []:=fN 0 Tryz.func158 ME
noncomputable def yP:SC:=bB Tryz.f158 0
theorem zB:ST pT 0 yP:=sT ME
noncomputable def sH:SC:=bB Tryz.f158 1
theorem rD:ST pT 1 sH:=sT ME
noncomputable def VK:SC:=aV Tryz.f159
noncomputable def D2:Nat->Code:=lpOf Tryz.f159
theorem RD:aM (aN Tryz.f159)=true:=kr
theorem aGC:FN 159 Tryz.f159 [] Bz71 D2 VK false [.tmp 4]:=fN 1 Tryz.func159 RD
noncomputable def BI:SC:=bB Tryz.f159 0
theorem FK:ST D2 0 BI:=sT RD
noncomputable def VE:SC:=aV Tryz.f160
noncomputable def pF:Nat->Code:=lpOf Tryz.f160
theorem EI:aM (aN Tryz.f160)=true:=kr
theorem aGh:FN 160 Tryz.f160 [] Bz25 pF VE false [.tmp 10]:=fN 2 Tryz.func160 EI
noncomputable def A8:SC:=bB Tryz.f160 0
theorem FU:ST pF 0 A8:=sT EI
noncomputable def nQ:SC:=bB Tryz.f160 1
theorem mV:ST pF 1 nQ:=sT EI
noncomputable def aB1:SC:=aV Tryz.f161
noncomputable def aJF:Nat->Code:=lpOf Tryz.f161
theorem aJL:aM (aN Tryz.f161)=true:=kr
theorem aJQ:FN 161 Tryz.f161 [] ([]) aJF aB1 false [.tmp 2]:=fN 1 Tryz.func161 aJL
noncomputable def rE:SC:=aV Tryz.f164
noncomputable def wT:Nat->Code:=lpOf Tryz.f164
theorem IX:aM (aN Tryz.f164)=true:=kr
theorem wE:FN 164 Tryz.f164 [] Bz48 wT rE false [.tmp 4]:=fN 1 Tryz.func164 IX
noncomputable def mY:SC:=bB Tryz.f164 0
theorem oH:ST wT 0 mY:=sT IX
noncomputable def sX:SC:=aV Tryz.f165
noncomputable def zO:Nat->Code:=lpOf Tryz.f165
theorem JY:aM (aN Tryz.f165)=true:=kr
theorem x7:FN 165 Tryz.f165 [] Bz37 zO sX false [.tmp 4]:=fN 1 Tryz.func165 JY
noncomputable def wS:SC:=bB Tryz.f165 0
theorem AO:ST zO 0 wS:=sT JY
noncomputable def x3:SC:=aV Tryz.f169
noncomputable def aGF:Nat->Code:=lpOf Tryz.f169
theorem aGr:aM (aN Tryz.f169)=true:=kr
theorem EB:FN 169 Tryz.f169 [] ([]) aGF x3 false [.tmp 4]:=fN 1 Tryz.func169 aGr
noncomputable def ZW:SC:=aV Tryz.f180
noncomputable def GY:Nat->Code:=lpOf Tryz.f180
theorem VM:aM (aN Tryz.f180)=true:=kr
theorem aIn:FN 180 Tryz.f180 [0,0,0,2] Bz72 GY ZW false [.tmp 2]:=fN 2 Tryz.func180 VM
noncomputable def vG:SC:=bB Tryz.f180 0
theorem v8:ST GY 0 vG:=sT VM
noncomputable def aAc:SC:=aV Tryz.f185
noncomputable def yV:Nat->Code:=lpOf Tryz.f185
theorem UG:aM (aN Tryz.f185)=true:=kr
theorem aHL:FN 185 Tryz.f185 [] Bz31 yV aAc false [.tmp 2]:=fN 2 Tryz.func185 UG
noncomputable def EK:SC:=bB Tryz.f185 0
theorem H8:ST yV 0 EK:=sT UG
noncomputable def M2:SC:=aV Tryz.f186
noncomputable def zM:Nat->Code:=lpOf Tryz.f186
theorem LU:aM (aN Tryz.f186)=true:=kr
theorem aC3:FN 186 Tryz.f186 [] Bz61 zM M2 false [.tmp 6]:=fN 1 Tryz.func186 LU
noncomputable def oW:SC:=bB Tryz.f186 0
theorem p9:ST zM 0 oW:=sT LU
noncomputable def fB:SC:=aV Tryz.f193
noncomputable def eO:Nat->Code:=lpOf Tryz.f193
theorem jH:aM (aN Tryz.f193)=true:=kr
theorem jG:FN 193 Tryz.f193 [] Bz65 eO fB false [.tmp 4]:=fN 1 Tryz.func193 jH
noncomputable def dA:SC:=bB Tryz.f193 0
theorem dY:ST eO 0 dA:=sT jH
noncomputable def ZM:SC:=aV Tryz.f194
noncomputable def aIi:Nat->Code:=lpOf Tryz.f194
theorem aHD:aM (aN Tryz.f194)=true:=kr
theorem aIH:FN 194 Tryz.f194 [] ([]) aIi ZM false (Tryz.f194.results.toList):=fN 0 Tryz.func194 aHD
noncomputable def aDa:SC:=aV Tryz.f195
noncomputable def aJ4:Nat->Code:=lpOf Tryz.f195
theorem aJU:aM (aN Tryz.f195)=true:=kr
theorem aKi:FN 195 Tryz.f195 [] ([]) aJ4 aDa false [.tmp 2]:=fN 0 Tryz.func195 aJU
noncomputable def aBY:SC:=aV Tryz.f196
noncomputable def pO:Nat->Code:=lpOf Tryz.f196
theorem MH:aM (aN Tryz.f196)=true:=kr
theorem aJx:FN 196 Tryz.f196 [] Bz11 pO aBY false (Tryz.f196.results.toList):=fN 0 Tryz.func196 MH
noncomputable def JA:SC:=bB Tryz.f196 0
theorem KK:ST pO 0 JA:=sT MH
noncomputable def IA:SC:=bB Tryz.f196 1
theorem JQ:ST pO 1 IA:=sT MH
noncomputable def PA:SC:=aV Tryz.f197
noncomputable def aJ8:Nat->Code:=lpOf Tryz.f197
theorem aKn:aM (aN Tryz.f197)=true:=kr
theorem Z6:FN 197 Tryz.f197 [] ([]) aJ8 PA false (Tryz.f197.results.toList):=fN 0 Tryz.func197 aKn
noncomputable def OY:SC:=aV Tryz.f198
noncomputable def pX:Nat->Code:=lpOf Tryz.f198
theorem ZV:aM (aN Tryz.f198)=true:=kr
theorem ZG:FN 198 Tryz.f198 (W16 (W8 (W4 [1002]))) Bz14 pX OY true (Tryz.f198.results.toList):=fN 2 Tryz.func198 ZV
noncomputable def rY:SC:=bB Tryz.f198 0
theorem qW:ST pX 0 rY:=sT ZV
noncomputable def qP:SC:=aV Tryz.f206
noncomputable def GX:Nat->Code:=lpOf Tryz.f206
theorem IZ:aM (aN Tryz.f206)=true:=kr
theorem aAB:FN 206 Tryz.f206 [] ([]) GX qP false [.tmp 2]:=fN 1 Tryz.func206 IZ
noncomputable def UK:SC:=aV Tryz.f207
noncomputable def aGD:Nat->Code:=lpOf Tryz.f207
theorem aGH:aM (aN Tryz.f207)=true:=kr
theorem aGO:FN 207 Tryz.f207 [] ([]) aGD UK false [.tmp 4]:=fN 0 Tryz.func207 aGH
noncomputable def G5:SC:=aV Tryz.f209
noncomputable def j4:Nat->Code:=lpOf Tryz.f209
theorem vP:aM (aN Tryz.f209)=true:=kr
theorem QS:FN 209 Tryz.f209 [] Bz12 j4 G5 false (Tryz.f209.results.toList):=fN 0 Tryz.func209 vP
noncomputable def BD:SC:=bB Tryz.f209 0
theorem E9:ST j4 0 BD:=sT vP
noncomputable def BL:SC:=bB Tryz.f209 1
theorem E1:ST j4 1 BL:=sT vP
noncomputable def nA:SC:=bB Tryz.f209 2
theorem m5:ST j4 2 nA:=sT vP
noncomputable def oD:SC:=aV Tryz.f210
noncomputable def mX:Nat->Code:=lpOf Tryz.f210
theorem FF:aM (aN Tryz.f210)=true:=kr
theorem uC:FN 210 Tryz.f210 (W8 (W2 [2])) Bz10 mX oD false [.tmp 9]:=fN 0 Tryz.func210 FF
noncomputable def cR:SC:=bB Tryz.f210 0
theorem cJ:ST mX 0 cR:=sT FF
noncomputable def TX:SC:=aV Tryz.f211
noncomputable def D1:Nat->Code:=lpOf Tryz.f211
theorem RJ:aM (aN Tryz.f211)=true:=kr
theorem aGS:FN 211 Tryz.f211 [0,0,0,2] Bz49 D1 TX false [.tmp 2]:=fN 1 Tryz.func211 RJ
noncomputable def BC:SC:=bB Tryz.f211 0
theorem ES:ST D1 0 BC:=sT RJ
noncomputable def YO:SC:=aV Tryz.f212
noncomputable def kW:Nat->Code:=lpOf Tryz.f212
theorem x8:aM (aN Tryz.f212)=true:=kr
theorem aIE:FN 212 Tryz.f212 [] Bz5 kW YO false [.tmp 8]:=fN 2 Tryz.func212 x8
noncomputable def D8:SC:=bB Tryz.f212 0
theorem HF:ST kW 0 D8:=sT x8
noncomputable def EP:SC:=bB Tryz.f212 1
theorem I4:ST kW 1 EP:=sT x8
noncomputable def EA:SC:=bB Tryz.f212 2
theorem IF:ST kW 2 EA:=sT x8
noncomputable def aHW:SC:=aV Tryz.f213
noncomputable def aM5:Nat->Code:=lpOf Tryz.f213
theorem aNT:aM (aN Tryz.f213)=true:=kr
theorem aNx:FN 213 Tryz.f213 [] ([]) aM5 aHW false [.tmp 6]:=fN 1 Tryz.func213 aNT
noncomputable def P7:SC:=aV Tryz.f214
noncomputable def uT:Nat->Code:=lpOf Tryz.f214
theorem MT:aM (aN Tryz.f214)=true:=kr
theorem YT:FN 214 Tryz.f214 [] Bz19 uT P7 false [.tmp 6]:=fN 1 Tryz.func214 MT
noncomputable def y6:SC:=bB Tryz.f214 0
theorem zI:ST uT 0 y6:=sT MT
noncomputable def x5:SC:=bB Tryz.f214 1
theorem yM:ST uT 1 x5:=sT MT
noncomputable def aAW:SC:=aV Tryz.f215
noncomputable def UI:Nat->Code:=lpOf Tryz.f215
theorem aFG:aM (aN Tryz.f215)=true:=kr
theorem aFe:FN 215 Tryz.f215 [] Bz74 UI aAW false [.tmp 4]:=fN 1 Tryz.func215 aFG
noncomputable def FZ:SC:=bB Tryz.f215 0
theorem D7:ST UI 0 FZ:=sT aFG
theorem BP{L n:Nat}{args:List A}{h:H}:aA env L (n+1) 240 args h=gCtz args h:=by
 have:env.prim 240=some (gCtz):=kr;simp only[aA,this]
noncomputable def UO:SC:=aV Tryz.f247
noncomputable def j3:Nat->Code:=lpOf Tryz.f247
theorem EE:aM (aN Tryz.f247)=true:=kr
theorem aGP:FN 247 Tryz.f247 (W32 (W4 (W1 [1002]))) Bz4 j3 UO true (Tryz.f247.results.toList):=fN 0 Tryz.func247 EE
noncomputable def s6:SC:=bB Tryz.f247 0
theorem tX:ST j3 0 s6:=sT EE
noncomputable def nO:SC:=bB Tryz.f247 1
theorem mZ:ST j3 1 nO:=sT EE
noncomputable def pI:SC:=aV Tryz.f251
noncomputable def fS:Nat->Code:=lpOf Tryz.f251
theorem nX:aM (aN Tryz.f251)=true:=kr
theorem DO:FN 251 Tryz.f251 [] Bz50 fS pI false []:=fN 0 Tryz.func251 nX
noncomputable def fK:SC:=bB Tryz.f251 0
theorem gR:ST fS 0 fK:=sT nX
noncomputable def vN:SC:=aV Tryz.f252
noncomputable def A2:Nat->Code:=lpOf Tryz.f252
theorem M6:aM (aN Tryz.f252)=true:=kr
theorem BM:FN 252 Tryz.f252 [] Bz47 A2 vN false [.tmp 8]:=fN 2 Tryz.func252 M6
noncomputable def lY:SC:=bB Tryz.f252 0
theorem lX:ST A2 0 lY:=sT M6
noncomputable def aAx:SC:=aV Tryz.f270
noncomputable def aMY:Nat->Code:=lpOf Tryz.f270
theorem aM9:aM (aN Tryz.f270)=true:=kr
theorem aEQ:FN 270 Tryz.f270 [] ([]) aMY aAx false [.tmp 6]:=fN 1 Tryz.func270 aM9
noncomputable def ZO:SC:=aV Tryz.f275
noncomputable def IK:Nat->Code:=lpOf Tryz.f275
theorem WC:aM (aN Tryz.f275)=true:=kr
theorem aIU:FN 275 Tryz.f275 [] Bz66 IK ZO false [.tmp 4]:=fN 1 Tryz.func275 WC
noncomputable def vU:SC:=bB Tryz.f275 0
theorem wU:ST IK 0 vU:=sT WC
end
end Ev
end Go.Proofs.YtahbdkmimmnadaaGreatDoor
