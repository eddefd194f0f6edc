/-
  Each function's code as an equation. Written by a program.
-/
import Derived.Test.YtppffbehejpglaaGreatEnv
set_option linter.unusedSimpArgs false
set_option linter.unusedVariables false
set_option linter.unusedSectionVars false
set_option maxRecDepth 100000
namespace Go.Proofs.YtppffbehejpglaaGreat
namespace Ev
abbrev FN(f:Nat)(fn:Func)(th:List Nat)(lv:List Bool)(lp:Nat->Code)(S:SC)(e:Bool)(rs:List ResultVar):Prop:=∀(L n:Nat) (args:List A) (h:H),aA env L (n+1) f args h=cX env (aA env L n) L h.length th lv lp S (args++List.replicate (fn.ntmps-args.length) (.d .undef)) h (kFin env.P h.length e rs)
theorem fN (mode : Nat) {f : Nat} {fn : Func} {e : Bool} {th : List Nat} {lv : List Bool} {rs : List ResultVar} (hf : env.P.funcs[f]? = some fn) (hd : aL (aO fn) = true) (hp : (env.prim f).isNone = true := by kernel_rfl) (hb : fn.body.isSome = true := by kernel_rfl) (hn : (fn.name == "runtime.NumGoroutine") = false := by kernel_rfl) (hh : env.hint f = ⟨mode, e, th, lv⟩ := by kernel_rfl) (hr : fn.results.toList = rs := by kernel_rfl) : FN f fn th lv (lpOf fn) (aT fn) e rs := fun _ _ _ _ => JS hp hf hb hn hd hh hr
abbrev ST(lp:Nat->Code)(i:Nat)(S:SC):Prop:=∀(R:Type) (call:aX) (L nf n:Nat) (thaw:List Nat) (live m:List Bool) (s:List A) (h:H) (k:KE R),aR env call L nf thaw live (lp i) m (n+1) s h k=cX env call L nf thaw live lp S s h (YP env call L nf thaw live (lp i) m n k)
theorem sT{fn:Func}{i:Nat}(hd:aL (aO fn)=true)(hi:((bR (aO fn))[i]?).isSome=true:=by kernel_rfl):ST (lpOf fn) i (a6 fn i):=fun _ _ _ _ _ _ _ _ _ _ _=>aDL hd hi
section
variable{R:Type}{call:aX}{L nf n:Nat}{thaw:List Nat}{live m:List Bool}{s args:List A}{h:H}{k:KE R}
noncomputable def oX:SC:=aT Tryz.f3
noncomputable def ZV:Nat->Code:=lpOf Tryz.f3
theorem Y9:aL (aO Tryz.f3)=true:=kr
theorem uU:FN 3 Tryz.f3 [] ([]) ZV oX false [.tmp 2]:=fN 1 Tryz.func3 Y9
noncomputable def eS:SC:=aT Tryz.f4
noncomputable def PH:Nat->Code:=lpOf Tryz.f4
theorem PQ:aL (aO Tryz.f4)=true:=kr
theorem fU:FN 4 Tryz.f4 [] ([]) PH eS false (Tryz.f4.results.toList):=fN 2 Tryz.func4 PQ
noncomputable def lD:SC:=aT Tryz.f5
noncomputable def uT:Nat->Code:=lpOf Tryz.f5
theorem FM:aL (aO Tryz.f5)=true:=kr
theorem mZ:FN 5 Tryz.f5 [] Bz29 uT lD false [.tmp 6,.tmp 7]:=fN 1 Tryz.func5 FM
noncomputable def lW:SC:=a6 Tryz.f5 0
theorem oA:ST uT 0 lW:=sT FM
noncomputable def kX:SC:=aT Tryz.f6
noncomputable def uR:Nat->Code:=lpOf Tryz.f6
theorem FC:aL (aO Tryz.f6)=true:=kr
theorem m2:FN 6 Tryz.f6 [] Bz30 uR kX false [.tmp 6,.tmp 7]:=fN 1 Tryz.func6 FC
noncomputable def mD:SC:=a6 Tryz.f6 0
theorem nX:ST uR 0 mD:=sT FC
noncomputable def lN:SC:=aT Tryz.f7
noncomputable def iZ:Nat->Code:=lpOf Tryz.f7
theorem tX:aL (aO Tryz.f7)=true:=kr
theorem nF:FN 7 Tryz.f7 [] Bz1 iZ lN true [.tmp 4,.tmp 5]:=fN 3 Tryz.func7 tX
noncomputable def rA:SC:=a6 Tryz.f7 0
theorem sF:ST iZ 0 rA:=sT tX
noncomputable def qV:SC:=a6 Tryz.f7 1
theorem rR:ST iZ 1 qV:=sT tX
noncomputable def zY:SC:=a6 Tryz.f7 2
theorem C6:ST iZ 2 zY:=sT tX
noncomputable def t8:SC:=aT Tryz.f8
noncomputable def lA:Nat->Code:=lpOf Tryz.f8
theorem rX:aL (aO Tryz.f8)=true:=kr
theorem I6:FN 8 Tryz.f8 [] Bz42 lA t8 false (Tryz.f8.results.toList):=fN 2 Tryz.func8 rX
noncomputable def j9:SC:=a6 Tryz.f8 0
theorem nJ:ST lA 0 j9:=sT rX
noncomputable def MZ:SC:=aT Tryz.f9
noncomputable def aIM:Nat->Code:=lpOf Tryz.f9
theorem aIs:aL (aO Tryz.f9)=true:=kr
theorem VI:FN 9 Tryz.f9 [] ([]) aIM MZ true [.tmp 2]:=fN 2 Tryz.func9 aIs
noncomputable def jD:SC:=aT Tryz.f10
noncomputable def aJR:Nat->Code:=lpOf Tryz.f10
theorem aKB:aL (aO Tryz.f10)=true:=kr
theorem jL:FN 10 Tryz.f10 [] ([]) aJR jD false (Tryz.f10.results.toList):=fN 0 Tryz.func10 aKB
noncomputable def eO:SC:=aT Tryz.f11
noncomputable def aHA:Nat->Code:=lpOf Tryz.f11
theorem aHX:aL (aO Tryz.f11)=true:=kr
theorem eR:FN 11 Tryz.f11 (W32 (W32 (W16 (W8 (W4 (W1 [1002])))))) ([]) aHA eO false (Tryz.f11.results.toList):=fN 0 Tryz.func11 aHX
noncomputable def nQ:SC:=aT Tryz.f12
noncomputable def aCY:Nat->Code:=lpOf Tryz.f12
theorem aEg:aL (aO Tryz.f12)=true:=kr
theorem rL:FN 12 Tryz.f12 [] ([]) aCY nQ false [.tmp 4]:=fN 0 Tryz.func12 aEg
noncomputable def PT:SC:=aT Tryz.f13
noncomputable def aK9:Nat->Code:=lpOf Tryz.f13
theorem aLo:aL (aO Tryz.f13)=true:=kr
theorem aAf:FN 13 Tryz.f13 [] ([]) aK9 PT false (Tryz.f13.results.toList):=fN 0 Tryz.func13 aLo
noncomputable def n9:SC:=aT Tryz.f14
noncomputable def NH:Nat->Code:=lpOf Tryz.f14
theorem M4:aL (aO Tryz.f14)=true:=kr
theorem u4:FN 14 Tryz.f14 [] ([]) NH n9 false (Tryz.f14.results.toList):=fN 2 Tryz.func14 M4
noncomputable def WU:SC:=aT Tryz.f15
noncomputable def aHH:Nat->Code:=lpOf Tryz.f15
theorem aHv:aL (aO Tryz.f15)=true:=kr
theorem aHw:FN 15 Tryz.f15 [] ([]) aHH WU false [.tmp 2]:=fN 0 Tryz.func15 aHv
noncomputable def qW:SC:=aT Tryz.f16
noncomputable def aCd:Nat->Code:=lpOf Tryz.f16
theorem aBe:aL (aO Tryz.f16)=true:=kr
theorem wV:FN 16 Tryz.f16 [] ([]) aCd qW false [.tmp 4]:=fN 1 Tryz.func16 aBe
noncomputable def LE:SC:=aT Tryz.f17
noncomputable def aCg:Nat->Code:=lpOf Tryz.f17
theorem aBQ:aL (aO Tryz.f17)=true:=kr
theorem aBR:FN 17 Tryz.f17 [] ([]) aCg LE false [.tmp 4]:=fN 1 Tryz.func17 aBQ
noncomputable def lP:SC:=aT Tryz.f18
noncomputable def iW:Nat->Code:=lpOf Tryz.f18
theorem tA:aL (aO Tryz.f18)=true:=kr
theorem n4:FN 18 Tryz.f18 [] Bz10 iW lP false [.tmp 4,.tmp 5]:=fN 2 Tryz.func18 tA
noncomputable def rP:SC:=a6 Tryz.f18 0
theorem sW:ST iW 0 rP:=sT tA
noncomputable def qU:SC:=a6 Tryz.f18 1
theorem sM:ST iW 1 qU:=sT tA
noncomputable def qT:SC:=a6 Tryz.f18 2
theorem sA:ST iW 2 qT:=sT tA
noncomputable def LW:SC:=aT Tryz.f19
noncomputable def aNz:Nat->Code:=lpOf Tryz.f19
theorem aNt:aL (aO Tryz.f19)=true:=kr
theorem RH:FN 19 Tryz.f19 [] ([]) aNz LW false [.tmp 4]:=fN 1 Tryz.func19 aNt
noncomputable def L6:SC:=aT Tryz.f20
noncomputable def aBT:Nat->Code:=lpOf Tryz.f20
theorem aBK:aL (aO Tryz.f20)=true:=kr
theorem aBt:FN 20 Tryz.f20 [] ([]) aBT L6 false [.tmp 4]:=fN 1 Tryz.func20 aBK
noncomputable def eN:SC:=aT Tryz.f21
noncomputable def iQ:Nat->Code:=lpOf Tryz.f21
theorem qO:aL (aO Tryz.f21)=true:=kr
theorem fJ:FN 21 Tryz.f21 [] Bz7 iQ eN false [.tmp 2]:=fN 1 Tryz.func21 qO
noncomputable def gI:SC:=a6 Tryz.f21 0
theorem iO:ST iQ 0 gI:=sT qO
noncomputable def hY:SC:=a6 Tryz.f21 1
theorem iN:ST iQ 1 hY:=sT qO
noncomputable def SA:SC:=aT Tryz.f22
noncomputable def i8:Nat->Code:=lpOf Tryz.f22
theorem tH:aL (aO Tryz.f22)=true:=kr
theorem aFc:FN 22 Tryz.f22 (W8 (W4 [2002])) Bz4 i8 SA false [.tmp 4]:=fN 2 Tryz.func22 tH
noncomputable def yG:SC:=a6 Tryz.f22 0
theorem CR:ST i8 0 yG:=sT tH
noncomputable def zR:SC:=a6 Tryz.f22 1
theorem DB:ST i8 1 zR:=sT tH
noncomputable def zM:SC:=a6 Tryz.f22 2
theorem CS:ST i8 2 zM:=sT tH
noncomputable def AS:SC:=aT Tryz.f23
noncomputable def hM:Nat->Code:=lpOf Tryz.f23
theorem pH:aL (aO Tryz.f23)=true:=kr
theorem RG:FN 23 Tryz.f23 [] Bz15 hM AS true [.tmp 2]:=fN 3 Tryz.func23 pH
noncomputable def nP:SC:=a6 Tryz.f23 0
theorem sS:ST hM 0 nP:=sT pH
noncomputable def gC:SC:=a6 Tryz.f23 1
theorem gM:ST hM 1 gC:=sT pH
noncomputable def PP:SC:=aT Tryz.f24
noncomputable def yO:Nat->Code:=lpOf Tryz.f24
theorem KM:aL (aO Tryz.f24)=true:=kr
theorem aCS:FN 24 Tryz.f24 [0,0,0,2] Bz52 yO PP true [.tmp 2]:=fN 3 Tryz.func24 KM
noncomputable def pB:SC:=a6 Tryz.f24 0
theorem qL:ST yO 0 pB:=sT KM
theorem AG{L n:Nat}{args:List A}{h:H}:aA env L (n+1) 25 args h=A3 54 27 args h:=by
 have:env.prim 25=some (A3 54 27):=kr;simp only[aA,this]
noncomputable def iD:SC:=aT Tryz.f26
noncomputable def oW:Nat->Code:=lpOf Tryz.f26
theorem pE:aL (aO Tryz.f26)=true:=kr
theorem oR:FN 26 Tryz.f26 [] ([]) oW iD true [.tmp 2]:=fN 0 Tryz.func26 pE
noncomputable def U6:SC:=aT Tryz.f27
noncomputable def aH4:Nat->Code:=lpOf Tryz.f27
theorem aHG:aL (aO Tryz.f27)=true:=kr
noncomputable def FF:SC:=aT Tryz.f28
noncomputable def rZ:Nat->Code:=lpOf Tryz.f28
theorem CP:aL (aO Tryz.f28)=true:=kr
theorem UH:FN 28 Tryz.f28 [] Bz48 rZ FF true (Tryz.f28.results.toList):=fN 2 Tryz.func28 CP
noncomputable def lI:SC:=a6 Tryz.f28 0
theorem mT:ST rZ 0 lI:=sT CP
noncomputable def c9:SC:=aT Tryz.f29
noncomputable def yB:Nat->Code:=lpOf Tryz.f29
theorem UU:aL (aO Tryz.f29)=true:=kr
theorem cY:FN 29 Tryz.f29 (W32 (W32 (W16 (W2 (W1 [1002,0,0,0,0,0,0,0,0,0,0,0,0,0,0,0,0,0,0,0,0,0,1002]))))) Bz19 yB c9 false (Tryz.f29.results.toList):=fN 0 Tryz.func29 UU
noncomputable def wE:SC:=a6 Tryz.f29 0
theorem wZ:ST yB 0 wE:=sT UU
noncomputable def aGS:SC:=aT Tryz.f30
noncomputable def GJ:Nat->Code:=lpOf Tryz.f30
theorem aC2:aL (aO Tryz.f30)=true:=kr
theorem aNU:FN 30 Tryz.f30 [] Bz22 GJ aGS false (Tryz.f30.results.toList):=fN 0 Tryz.func30 aC2
noncomputable def CI:SC:=a6 Tryz.f30 0
theorem A8:ST GJ 0 CI:=sT aC2
noncomputable def XT:SC:=aT Tryz.f31
noncomputable def jW:Nat->Code:=lpOf Tryz.f31
theorem ET:aL (aO Tryz.f31)=true:=kr
theorem aHx:FN 31 Tryz.f31 (W32 (W4 (W1 [1002]))) Bz5 jW XT true (Tryz.f31.results.toList):=fN 0 Tryz.func31 ET
noncomputable def tF:SC:=a6 Tryz.f31 0
theorem uV:ST jW 0 tF:=sT ET
noncomputable def nH:SC:=a6 Tryz.f31 1
theorem m4:ST jW 1 nH:=sT ET
noncomputable def Q7:SC:=aT Tryz.f32
noncomputable def qC:Nat->Code:=lpOf Tryz.f32
theorem aAw:aL (aO Tryz.f32)=true:=kr
theorem aAR:FN 32 Tryz.f32 (W16 (W8 (W4 [1002]))) Bz13 qC Q7 true (Tryz.f32.results.toList):=fN 2 Tryz.func32 aAw
noncomputable def sX:SC:=a6 Tryz.f32 0
theorem qX:ST qC 0 sX:=sT aAw
noncomputable def VE:SC:=aT Tryz.f34
noncomputable def aHz:Nat->Code:=lpOf Tryz.f34
theorem aHS:aL (aO Tryz.f34)=true:=kr
theorem aHI:FN 34 Tryz.f34 [] ([]) aHz VE false [.tmp 4]:=fN 0 Tryz.func34 aHS
noncomputable def QA:SC:=aT Tryz.f36
noncomputable def aK8:Nat->Code:=lpOf Tryz.f36
theorem aLb:aL (aO Tryz.f36)=true:=kr
theorem aA8:FN 36 Tryz.f36 [] ([]) aK8 QA false (Tryz.f36.results.toList):=fN 0 Tryz.func36 aLb
noncomputable def SV:SC:=aT Tryz.f37
noncomputable def aFh:Nat->Code:=lpOf Tryz.f37
theorem aE5:aL (aO Tryz.f37)=true:=kr
theorem aFt:FN 37 Tryz.f37 [] ([]) aFh SV false [.tmp 4]:=fN 0 Tryz.func37 aE5
noncomputable def eL:SC:=aT Tryz.f38
noncomputable def qP:Nat->Code:=lpOf Tryz.f38
theorem AY:aL (aO Tryz.f38)=true:=kr
theorem fH:FN 38 Tryz.f38 [] Bz58 qP eL false [.tmp 2]:=fN 1 Tryz.func38 AY
noncomputable def j7:SC:=a6 Tryz.f38 0
theorem lM:ST qP 0 j7:=sT AY
noncomputable def SS:SC:=aT Tryz.f39
noncomputable def nW:Nat->Code:=lpOf Tryz.f39
theorem BB:aL (aO Tryz.f39)=true:=kr
theorem aFj:FN 39 Tryz.f39 [] Bz28 nW SS false (Tryz.f39.results.toList):=fN 2 Tryz.func39 BB
noncomputable def rK:SC:=a6 Tryz.f39 0
theorem sI:ST nW 0 rK:=sT BB
noncomputable def zI:SC:=a6 Tryz.f39 1
theorem D6:ST nW 1 zI:=sT BB
noncomputable def tB:SC:=aT Tryz.f40
noncomputable def zV:Nat->Code:=lpOf Tryz.f40
theorem KO:aL (aO Tryz.f40)=true:=kr
theorem yE:FN 40 Tryz.f40 [] Bz32 zV tB false [.tmp 4]:=fN 1 Tryz.func40 KO
noncomputable def wF:SC:=a6 Tryz.f40 0
theorem AV:ST zV 0 wF:=sT KO
noncomputable def BC:SC:=aT Tryz.f41
noncomputable def zE:Nat->Code:=lpOf Tryz.f41
theorem MU:aL (aO Tryz.f41)=true:=kr
theorem J6:FN 41 Tryz.f41 [] Bz63 zE BC false [.tmp 2]:=fN 2 Tryz.func41 MU
noncomputable def wX:SC:=a6 Tryz.f41 0
theorem AN:ST zE 0 wX:=sT MU
noncomputable def qQ:SC:=aT Tryz.f42
noncomputable def gT:Nat->Code:=lpOf Tryz.f42
theorem oQ:aL (aO Tryz.f42)=true:=kr
theorem x8:FN 42 Tryz.f42 [] Bz37 gT qQ false [.tmp 2]:=fN 2 Tryz.func42 oQ
noncomputable def nL:SC:=a6 Tryz.f42 0
theorem sO:ST gT 0 nL:=sT oQ
noncomputable def fT:SC:=a6 Tryz.f42 1
theorem gW:ST gT 1 fT:=sT oQ
noncomputable def TB:SC:=aT Tryz.f43
noncomputable def kQ:Nat->Code:=lpOf Tryz.f43
theorem BN:aL (aO Tryz.f43)=true:=kr
theorem aE3:FN 43 Tryz.f43 [] Bz11 kQ TB false [.tmp 4]:=fN 2 Tryz.func43 BN
noncomputable def rE:SC:=a6 Tryz.f43 0
theorem sE:ST kQ 0 rE:=sT BN
noncomputable def yY:SC:=a6 Tryz.f43 1
theorem DL:ST kQ 1 yY:=sT BN
noncomputable def F0:SC:=aT Tryz.f44
noncomputable def M5:Nat->Code:=lpOf Tryz.f44
theorem aAs:aL (aO Tryz.f44)=true:=kr
theorem NM:FN 44 Tryz.f44 [] Bz59 M5 F0 false [.tmp 4]:=fN 0 Tryz.func44 aAs
noncomputable def JI:SC:=a6 Tryz.f44 0
theorem MN:ST M5 0 JI:=sT aAs
noncomputable def NX:SC:=aT Tryz.f45
noncomputable def aDY:Nat->Code:=lpOf Tryz.f45
theorem aD7:aL (aO Tryz.f45)=true:=kr
theorem aD5:FN 45 Tryz.f45 [] ([]) aDY NX false [.tmp 4]:=fN 1 Tryz.func45 aD7
noncomputable def N6:SC:=aT Tryz.f46
noncomputable def aCN:Nat->Code:=lpOf Tryz.f46
theorem aDV:aL (aO Tryz.f46)=true:=kr
theorem aEH:FN 46 Tryz.f46 [] ([]) aCN N6 false [.tmp 2]:=fN 1 Tryz.func46 aDV
noncomputable def S9:SC:=aT Tryz.f47
noncomputable def tU:Nat->Code:=lpOf Tryz.f47
theorem OJ:aL (aO Tryz.f47)=true:=kr
theorem aEQ:FN 47 Tryz.f47 [0,0,0,2] Bz26 tU S9 false [.tmp 2]:=fN 2 Tryz.func47 OJ
noncomputable def rM:SC:=a6 Tryz.f47 0
theorem sD:ST tU 0 rM:=sT OJ
noncomputable def O8:SC:=aT Tryz.f48
noncomputable def aD4:Nat->Code:=lpOf Tryz.f48
theorem aCP:aL (aO Tryz.f48)=true:=kr
theorem aEA:FN 48 Tryz.f48 [] ([]) aD4 O8 false [.tmp 2]:=fN 1 Tryz.func48 aCP
noncomputable def gN:SC:=aT Tryz.f49
noncomputable def aB3:Nat->Code:=lpOf Tryz.f49
theorem aCe:aL (aO Tryz.f49)=true:=kr
theorem iS:FN 49 Tryz.f49 [] ([]) aB3 gN false [.tmp 6,.tmp 7]:=fN 1 Tryz.func49 aCe
noncomputable def lJ:SC:=aT Tryz.f50
noncomputable def wT:Nat->Code:=lpOf Tryz.f50
theorem wO:aL (aO Tryz.f50)=true:=kr
theorem wG:FN 50 Tryz.f50 [] ([]) wT lJ false [.tmp 4]:=fN 1 Tryz.func50 wO
noncomputable def B0:SC:=aT Tryz.f51
noncomputable def aDx:Nat->Code:=lpOf Tryz.f51
theorem aDB:aL (aO Tryz.f51)=true:=kr
theorem MG:FN 51 Tryz.f51 [] ([]) aDx B0 false [.tmp 4,.tmp 5]:=fN 1 Tryz.func51 aDB
theorem uP{L n:Nat}{args:List A}{h:H}:aA env L (n+1) 52 args h=H6 27 args h:=by
 have:env.prim 52=some (H6 27):=kr;simp only[aA,this]
noncomputable def HV:SC:=aT Tryz.f55
noncomputable def pT:Nat->Code:=lpOf Tryz.f55
theorem S3:aL (aO Tryz.f55)=true:=kr
noncomputable def sZ:SC:=a6 Tryz.f55 0
noncomputable def m8:SC:=aT Tryz.f56
noncomputable def X3:Nat->Code:=lpOf Tryz.f56
theorem V8:aL (aO Tryz.f56)=true:=kr
noncomputable def kC:SC:=aT Tryz.f57
noncomputable def OM:Nat->Code:=lpOf Tryz.f57
theorem NU:aL (aO Tryz.f57)=true:=kr
theorem CO{L n:Nat}{args:List A}{h:H}:aA env L (n+1) 58 args h=mA 1 args h:=by
 have:env.prim 58=some (mA 1):=kr;simp only[aA,this]
theorem GD{L n:Nat}{args:List A}{h:H}:aA env L (n+1) 59 args h=mA 1 args h:=by
 have:env.prim 59=some (mA 1):=kr;simp only[aA,this]
noncomputable def S5:SC:=aT Tryz.f60
noncomputable def BL:Nat->Code:=lpOf Tryz.f60
theorem OF:aL (aO Tryz.f60)=true:=kr
theorem aFl:FN 60 Tryz.f60 [] Bz55 BL S5 false [.tmp 2]:=fN 2 Tryz.func60 OF
noncomputable def qY:SC:=a6 Tryz.f60 0
theorem rW:ST BL 0 qY:=sT OF
noncomputable def aDS:SC:=aT Tryz.f65
noncomputable def qJ:Nat->Code:=lpOf Tryz.f65
theorem NP:aL (aO Tryz.f65)=true:=kr
theorem aKN:FN 65 Tryz.f65 [] Bz9 qJ aDS false (Tryz.f65.results.toList):=fN 0 Tryz.func65 NP
noncomputable def IX:SC:=a6 Tryz.f65 0
theorem K6:ST qJ 0 IX:=sT NP
noncomputable def G7:SC:=a6 Tryz.f65 1
theorem J7:ST qJ 1 G7:=sT NP
noncomputable def OU:SC:=aT Tryz.f66
noncomputable def aCA:Nat->Code:=lpOf Tryz.f66
theorem aEE:aL (aO Tryz.f66)=true:=kr
theorem aDW:FN 66 Tryz.f66 [] ([]) aCA OU false [.tmp 2]:=fN 1 Tryz.func66 aEE
noncomputable def KX:SC:=aT Tryz.f67
noncomputable def RP:Nat->Code:=lpOf Tryz.f67
theorem aCH:aL (aO Tryz.f67)=true:=kr
theorem QT:FN 67 Tryz.f67 [] Bz34 RP KX false [.tmp 6]:=fN 1 Tryz.func67 aCH
noncomputable def vA:SC:=a6 Tryz.f67 0
theorem tV:ST RP 0 vA:=sT aCH
noncomputable def aCZ:SC:=aT Tryz.f68
noncomputable def vD:Nat->Code:=lpOf Tryz.f68
theorem M7:aL (aO Tryz.f68)=true:=kr
theorem aLl:FN 68 Tryz.f68 [] Bz20 vD aCZ false (Tryz.f68.results.toList):=fN 2 Tryz.func68 M7
noncomputable def y6:SC:=a6 Tryz.f68 0
theorem zC:ST vD 0 y6:=sT M7
noncomputable def IY:SC:=a6 Tryz.f68 1
theorem LG:ST vD 1 IY:=sT M7
noncomputable def R8:SC:=aT Tryz.f69
noncomputable def nT:Nat->Code:=lpOf Tryz.f69
theorem A7:aL (aO Tryz.f69)=true:=kr
theorem aEW:FN 69 Tryz.f69 [] Bz25 nT R8 false [.tmp 2,.tmp 3]:=fN 2 Tryz.func69 A7
noncomputable def qZ:SC:=a6 Tryz.f69 0
theorem sU:ST nT 0 qZ:=sT A7
noncomputable def zT:SC:=a6 Tryz.f69 1
theorem CM:ST nT 1 zT:=sT A7
noncomputable def aAQ:SC:=aT Tryz.f70
noncomputable def HD:Nat->Code:=lpOf Tryz.f70
theorem TZ:aL (aO Tryz.f70)=true:=kr
theorem aIA:FN 70 Tryz.f70 [] Bz66 HD aAQ false [.tmp 4]:=fN 1 Tryz.func70 TZ
noncomputable def EE:SC:=a6 Tryz.f70 0
theorem IO:ST HD 0 EE:=sT TZ
noncomputable def nN:SC:=aT Tryz.f71
noncomputable def x9:Nat->Code:=lpOf Tryz.f71
theorem MB:aL (aO Tryz.f71)=true:=kr
theorem rH:FN 71 Tryz.f71 [] Bz49 x9 nN false [.tmp 4]:=fN 1 Tryz.func71 MB
noncomputable def o9:SC:=a6 Tryz.f71 0
theorem qN:ST x9 0 o9:=sT MB
noncomputable def aA1:SC:=aT Tryz.f72
noncomputable def lB:Nat->Code:=lpOf Tryz.f72
theorem yL:aL (aO Tryz.f72)=true:=kr
theorem aJr:FN 72 Tryz.f72 [] Bz3 lB aA1 false [.tmp 2]:=fN 2 Tryz.func72 yL
noncomputable def E4:SC:=a6 Tryz.f72 0
theorem H1:ST lB 0 E4:=sT yL
noncomputable def EY:SC:=a6 Tryz.f72 1
theorem JJ:ST lB 1 EY:=sT yL
noncomputable def EO:SC:=a6 Tryz.f72 2
theorem ID:ST lB 2 EO:=sT yL
noncomputable def WP:SC:=aT Tryz.f73
noncomputable def aHO:Nat->Code:=lpOf Tryz.f73
theorem aHQ:aL (aO Tryz.f73)=true:=kr
theorem aHV:FN 73 Tryz.f73 [] ([]) aHO WP false [.tmp 4]:=fN 1 Tryz.func73 aHQ
noncomputable def tL:SC:=aT Tryz.f74
noncomputable def aDp:Nat->Code:=lpOf Tryz.f74
theorem aC0:aL (aO Tryz.f74)=true:=kr
theorem zS:FN 74 Tryz.f74 [] ([]) aDp tL false [.tmp 4,.tmp 5]:=fN 1 Tryz.func74 aC0
noncomputable def lY:SC:=aT Tryz.f75
noncomputable def aCp:Nat->Code:=lpOf Tryz.f75
theorem aBD:aL (aO Tryz.f75)=true:=kr
theorem pM:FN 75 Tryz.f75 [] ([]) aCp lY false [.tmp 6,.tmp 7]:=fN 1 Tryz.func75 aBD
noncomputable def V9:SC:=aT Tryz.f76
noncomputable def RO:Nat->Code:=lpOf Tryz.f76
theorem aDo:aL (aO Tryz.f76)=true:=kr
theorem aD2:FN 76 Tryz.f76 [] Bz33 RO V9 false [.tmp 4]:=fN 1 Tryz.func76 aDo
noncomputable def CJ:SC:=a6 Tryz.f76 0
theorem BT:ST RO 0 CJ:=sT aDo
noncomputable def aD3:SC:=aT Tryz.f77
noncomputable def aLh:Nat->Code:=lpOf Tryz.f77
theorem aK7:aL (aO Tryz.f77)=true:=kr
theorem aKQ:FN 77 Tryz.f77 [] ([]) aLh aD3 false [.tmp 2]:=fN 1 Tryz.func77 aK7
noncomputable def UF:SC:=aT Tryz.f78
noncomputable def EJ:Nat->Code:=lpOf Tryz.f78
theorem SL:aL (aO Tryz.f78)=true:=kr
theorem aH5:FN 78 Tryz.f78 [] Bz60 EJ UF false [.tmp 4]:=fN 1 Tryz.func78 SL
noncomputable def nY:SC:=a6 Tryz.f78 0
theorem m5:ST EJ 0 nY:=sT SL
noncomputable def OS:SC:=aT Tryz.f79
noncomputable def aEe:Nat->Code:=lpOf Tryz.f79
theorem aEi:aL (aO Tryz.f79)=true:=kr
theorem aC9:FN 79 Tryz.f79 [] ([]) aEe OS false [.tmp 4]:=fN 1 Tryz.func79 aEi
noncomputable def aGv:SC:=aT Tryz.f80
noncomputable def PV:Nat->Code:=lpOf Tryz.f80
theorem aEz:aL (aO Tryz.f80)=true:=kr
theorem aNw:FN 80 Tryz.f80 [] Bz50 PV aGv false [.tmp 6]:=fN 1 Tryz.func80 aEz
noncomputable def M0:SC:=a6 Tryz.f80 0
theorem N2:ST PV 0 M0:=sT aEz
noncomputable def aMq:SC:=aT Tryz.f81
noncomputable def aQn:Nat->Code:=lpOf Tryz.f81
theorem aQA:aL (aO Tryz.f81)=true:=kr
theorem aRb:FN 81 Tryz.f81 [] ([]) aQn aMq false [.tmp 4]:=fN 1 Tryz.func81 aQA
noncomputable def MV:SC:=aT Tryz.f82
noncomputable def aBO:Nat->Code:=lpOf Tryz.f82
theorem aB9:aL (aO Tryz.f82)=true:=kr
theorem aBw:FN 82 Tryz.f82 [] ([]) aBO MV false [.tmp 10,.tmp 11]:=fN 1 Tryz.func82 aB9
noncomputable def DD:SC:=aT Tryz.f83
noncomputable def TD:Nat->Code:=lpOf Tryz.f83
theorem TK:aL (aO Tryz.f83)=true:=kr
theorem TI:FN 83 Tryz.f83 [] ([]) TD DD false [.tmp 4]:=fN 0 Tryz.func83 TK
noncomputable def i7:SC:=aT Tryz.f84
noncomputable def iH:Nat->Code:=lpOf Tryz.f84
theorem mV:aL (aO Tryz.f84)=true:=kr
theorem mY:FN 84 Tryz.f84 [] Bz56 iH i7 false [.tmp 4]:=fN 1 Tryz.func84 mV
noncomputable def eE:SC:=a6 Tryz.f84 0
theorem fM:ST iH 0 eE:=sT mV
noncomputable def SY:SC:=aT Tryz.f85
noncomputable def aEP:Nat->Code:=lpOf Tryz.f85
theorem aFo:aL (aO Tryz.f85)=true:=kr
theorem aFE:FN 85 Tryz.f85 [] ([]) aEP SY false [.tmp 4,.tmp 5]:=fN 1 Tryz.func85 aFo
noncomputable def uX:SC:=aT Tryz.f86
noncomputable def V2:Nat->Code:=lpOf Tryz.f86
theorem XO:aL (aO Tryz.f86)=true:=kr
theorem DW:FN 86 Tryz.f86 [] ([]) V2 uX false [.tmp 3]:=fN 0 Tryz.func86 XO
noncomputable def J9:SC:=aT Tryz.f90
noncomputable def aBN:Nat->Code:=lpOf Tryz.f90
theorem aBM:aL (aO Tryz.f90)=true:=kr
noncomputable def DT:SC:=aT Tryz.f91
noncomputable def TR:Nat->Code:=lpOf Tryz.f91
theorem TG:aL (aO Tryz.f91)=true:=kr
noncomputable def aF6:SC:=aT Tryz.f92
noncomputable def aNx:Nat->Code:=lpOf Tryz.f92
theorem aMI:aL (aO Tryz.f92)=true:=kr
theorem aMB:FN 92 Tryz.f92 [] ([]) aNx aF6 false [.tmp 4]:=fN 1 Tryz.func92 aMI
noncomputable def aAI:SC:=aT Tryz.f96
noncomputable def nS:Nat->Code:=lpOf Tryz.f96
theorem HZ:aL (aO Tryz.f96)=true:=kr
theorem aIG:FN 96 Tryz.f96 [] Bz31 nS aAI false [.tmp 2]:=fN 2 Tryz.func96 HZ
noncomputable def EK:SC:=a6 Tryz.f96 0
theorem JB:ST nS 0 EK:=sT HZ
noncomputable def vU:SC:=a6 Tryz.f96 1
theorem wI:ST nS 1 vU:=sT HZ
noncomputable def UM:SC:=aT Tryz.f97
noncomputable def lQ:Nat->Code:=lpOf Tryz.f97
theorem EF:aL (aO Tryz.f97)=true:=kr
theorem aHK:FN 97 Tryz.f97 [] Bz12 lQ UM false [.tmp 4,.tmp 5]:=fN 2 Tryz.func97 EF
noncomputable def s6:SC:=a6 Tryz.f97 0
theorem uZ:ST lQ 0 s6:=sT EF
noncomputable def nR:SC:=a6 Tryz.f97 1
theorem m6:ST lQ 1 nR:=sT EF
noncomputable def B4:SC:=aT Tryz.f98
noncomputable def aJF:Nat->Code:=lpOf Tryz.f98
theorem aIF:aL (aO Tryz.f98)=true:=kr
theorem H3:FN 98 Tryz.f98 [] ([]) aJF B4 false [.tmp 4]:=fN 1 Tryz.func98 aIF
noncomputable def CF:SC:=aT Tryz.f99
noncomputable def d5:Nat->Code:=lpOf Tryz.f99
theorem sC:aL (aO Tryz.f99)=true:=kr
theorem JA:FN 99 Tryz.f99 [] Bz0 d5 CF false [.tmp 2,.tmp 3]:=fN 1 Tryz.func99 sC
noncomputable def EG:SC:=a6 Tryz.f99 0
theorem H8:ST d5 0 EG:=sT sC
noncomputable def wC:SC:=a6 Tryz.f99 1
theorem wW:ST d5 1 wC:=sT sC
noncomputable def pZ:SC:=a6 Tryz.f99 2
theorem oK:ST d5 2 pZ:=sT sC
noncomputable def pV:SC:=a6 Tryz.f99 3
theorem o7:ST d5 3 pV:=sT sC
noncomputable def tQ:SC:=aT Tryz.f100
noncomputable def aD1:Nat->Code:=lpOf Tryz.f100
theorem aDE:aL (aO Tryz.f100)=true:=kr
theorem zB:FN 100 Tryz.f100 [] ([]) aD1 tQ false [.tmp 4]:=fN 1 Tryz.func100 aDE
noncomputable def O6:SC:=aT Tryz.f101
noncomputable def yI:Nat->Code:=lpOf Tryz.f101
theorem LL:aL (aO Tryz.f101)=true:=kr
theorem aCW:FN 101 Tryz.f101 [] (U1 (Z1 (U4 (Z16 ([]))))) yI O6 false [.tmp 2,.tmp 3]:=fN 1 Tryz.func101 LL
noncomputable def wM:SC:=a6 Tryz.f101 0
theorem AP:ST yI 0 wM:=sT LL
noncomputable def aBz:SC:=aT Tryz.f102
noncomputable def aOO:Nat->Code:=lpOf Tryz.f102
theorem aOx:aL (aO Tryz.f102)=true:=kr
theorem aGt:FN 102 Tryz.f102 [] ([]) aOO aBz false [.tmp 6]:=fN 1 Tryz.func102 aOx
noncomputable def aIJ:SC:=aT Tryz.f103
noncomputable def aNW:Nat->Code:=lpOf Tryz.f103
theorem aN5:aL (aO Tryz.f103)=true:=kr
theorem aPB:FN 103 Tryz.f103 [] ([]) aNW aIJ false [.tmp 4]:=fN 1 Tryz.func103 aN5
noncomputable def C9:SC:=aT Tryz.f104
noncomputable def TL:Nat->Code:=lpOf Tryz.f104
theorem TU:aL (aO Tryz.f104)=true:=kr
theorem TO:FN 104 Tryz.f104 [] ([]) TL C9 false [.tmp 9]:=fN 0 Tryz.func104 TU
noncomputable def vT:SC:=aT Tryz.f105
noncomputable def iU:Nat->Code:=lpOf Tryz.f105
theorem tY:aL (aO Tryz.f105)=true:=kr
theorem BS:FN 105 Tryz.f105 (W16 (W2 [2])) Bz2 iU vT false [.tmp 10,.tmp 11]:=fN 1 Tryz.func105 tY
noncomputable def mF:SC:=a6 Tryz.f105 0
theorem lS:ST iU 0 mF:=sT tY
noncomputable def rB:SC:=a6 Tryz.f105 1
theorem rV:ST iU 1 rB:=sT tY
noncomputable def yU:SC:=a6 Tryz.f105 2
theorem DY:ST iU 2 yU:=sT tY
noncomputable def D2:SC:=aT Tryz.f106
noncomputable def TS:Nat->Code:=lpOf Tryz.f106
theorem TJ:aL (aO Tryz.f106)=true:=kr
theorem TQ:FN 106 Tryz.f106 [] ([]) TS D2 false [.tmp 6]:=fN 0 Tryz.func106 TJ
noncomputable def HJ:SC:=aT Tryz.f107
noncomputable def ZX:Nat->Code:=lpOf Tryz.f107
theorem ZB:aL (aO Tryz.f107)=true:=kr
theorem ZJ:FN 107 Tryz.f107 [] ([]) ZX HJ false [.tmp 7]:=fN 0 Tryz.func107 ZB
noncomputable def aBF:SC:=aT Tryz.f118
noncomputable def WN:Nat->Code:=lpOf Tryz.f118
theorem aGX:aL (aO Tryz.f118)=true:=kr
theorem aHa:FN 118 Tryz.f118 [] Bz33 WN aBF false [.tmp 4]:=fN 1 Tryz.func118 aGX
noncomputable def F8:SC:=a6 Tryz.f118 0
theorem E5:ST WN 0 F8:=sT aGX
noncomputable def GM:SC:=aT Tryz.f119
noncomputable def M2:Nat->Code:=lpOf Tryz.f119
theorem Z5:aL (aO Tryz.f119)=true:=kr
theorem ND:FN 119 Tryz.f119 [] Bz43 M2 GM false [.tmp 8]:=fN 1 Tryz.func119 Z5
noncomputable def z6:SC:=a6 Tryz.f119 0
theorem zW:ST M2 0 z6:=sT Z5
noncomputable def aAB:SC:=aT Tryz.f120
noncomputable def rT:Nat->Code:=lpOf Tryz.f120
theorem IG:aL (aO Tryz.f120)=true:=kr
theorem aIo:FN 120 Tryz.f120 [] Bz38 rT aAB false [.tmp 2]:=fN 2 Tryz.func120 IG
noncomputable def EU:SC:=a6 Tryz.f120 0
theorem HN:ST rT 0 EU:=sT IG
noncomputable def EZ:SC:=a6 Tryz.f120 1
theorem JV:ST rT 1 EZ:=sT IG
noncomputable def aA0:SC:=aT Tryz.f121
noncomputable def sK:Nat->Code:=lpOf Tryz.f121
theorem J0:aL (aO Tryz.f121)=true:=kr
theorem aIl:FN 121 Tryz.f121 [] Bz16 sK aA0 false [.tmp 6]:=fN 2 Tryz.func121 J0
noncomputable def EX:SC:=a6 Tryz.f121 0
theorem JP:ST sK 0 EX:=sT J0
noncomputable def E7:SC:=a6 Tryz.f121 1
theorem I4:ST sK 1 E7:=sT J0
noncomputable def mK:SC:=aT Tryz.f122
noncomputable def aKD:Nat->Code:=lpOf Tryz.f122
theorem aJZ:aL (aO Tryz.f122)=true:=kr
theorem nB:FN 122 Tryz.f122 [] (Z2 (U1 (Z2 (Z1 (U2 (Z32 (Z16 (Z8 ([]))))))))) aKD mK false [.tmp 6]:=fN 1 Tryz.func122 aJZ
noncomputable def W3:SC:=aT Tryz.f123
noncomputable def EC:Nat->Code:=lpOf Tryz.f123
theorem SQ:aL (aO Tryz.f123)=true:=kr
theorem aHU:FN 123 Tryz.f123 [] Bz53 EC W3 false [.tmp 4]:=fN 2 Tryz.func123 SQ
noncomputable def B1:SC:=a6 Tryz.f123 0
theorem FG:ST EC 0 B1:=sT SQ
noncomputable def aC3:SC:=aT Tryz.f124
noncomputable def qH:Nat->Code:=lpOf Tryz.f124
theorem NN:aL (aO Tryz.f124)=true:=kr
theorem aK0:FN 124 Tryz.f124 [] Bz18 qH aC3 false []:=fN 0 Tryz.func124 NN
noncomputable def yS:SC:=a6 Tryz.f124 0
theorem AD:ST qH 0 yS:=sT NN
noncomputable def r8:SC:=a6 Tryz.f124 1
theorem rO:ST qH 1 r8:=sT NN
noncomputable def WH:SC:=aT Tryz.f125
noncomputable def EN:Nat->Code:=lpOf Tryz.f125
theorem R3:aL (aO Tryz.f125)=true:=kr
theorem aHY:FN 125 Tryz.f125 [] Bz61 EN WH false [.tmp 4]:=fN 1 Tryz.func125 R3
noncomputable def A5:SC:=a6 Tryz.f125 0
theorem FJ:ST EN 0 A5:=sT R3
noncomputable def VD:SC:=aT Tryz.f126
noncomputable def pP:Nat->Code:=lpOf Tryz.f126
theorem EW:aL (aO Tryz.f126)=true:=kr
theorem aHR:FN 126 Tryz.f126 [] Bz21 pP VD false [.tmp 10]:=fN 2 Tryz.func126 EW
noncomputable def BU:SC:=a6 Tryz.f126 0
theorem E8:ST pP 0 BU:=sT EW
noncomputable def oB:SC:=a6 Tryz.f126 1
theorem m9:ST pP 1 oB:=sT EW
noncomputable def vV:SC:=aT Tryz.f127
noncomputable def A4:Nat->Code:=lpOf Tryz.f127
theorem O0:aL (aO Tryz.f127)=true:=kr
theorem BQ:FN 127 Tryz.f127 [] Bz62 A4 vV false [.tmp 2]:=fN 1 Tryz.func127 O0
noncomputable def lX:SC:=a6 Tryz.f127 0
theorem lV:ST A4 0 lX:=sT O0
noncomputable def aG2:SC:=aT Tryz.f128
noncomputable def aMQ:Nat->Code:=lpOf Tryz.f128
theorem aNf:aL (aO Tryz.f128)=true:=kr
theorem aMG:FN 128 Tryz.f128 [] ([]) aMQ aG2 false [.tmp 2]:=fN 1 Tryz.func128 aNf
noncomputable def aAE:SC:=aT Tryz.f129
noncomputable def HO:Nat->Code:=lpOf Tryz.f129
theorem XH:aL (aO Tryz.f129)=true:=kr
theorem aJe:FN 129 Tryz.f129 [] Bz57 HO aAE false [.tmp 4]:=fN 1 Tryz.func129 XH
noncomputable def wA:SC:=a6 Tryz.f129 0
theorem wL:ST HO 0 wA:=sT XH
noncomputable def pA:SC:=aT Tryz.f130
noncomputable def m7:Nat->Code:=lpOf Tryz.f130
theorem FV:aL (aO Tryz.f130)=true:=kr
theorem uO:FN 130 Tryz.f130 (W8 (W2 [2])) Bz8 m7 pA false [.tmp 9]:=fN 0 Tryz.func130 FV
noncomputable def cM:SC:=a6 Tryz.f130 0
theorem cF:ST m7 0 cM:=sT FV
noncomputable def XY:SC:=aT Tryz.f131
noncomputable def EQ:Nat->Code:=lpOf Tryz.f131
theorem S0:aL (aO Tryz.f131)=true:=kr
theorem aH6:FN 131 Tryz.f131 [0,0,0,2] Bz44 EQ XY false [.tmp 2]:=fN 1 Tryz.func131 S0
noncomputable def BG:SC:=a6 Tryz.f131 0
theorem FW:ST EQ 0 BG:=sT S0
noncomputable def aAO:SC:=aT Tryz.f137
noncomputable def kZ:Nat->Code:=lpOf Tryz.f137
theorem yR:aL (aO Tryz.f137)=true:=kr
theorem aJd:FN 137 Tryz.f137 [] Bz6 kZ aAO false [.tmp 8]:=fN 2 Tryz.func137 yR
noncomputable def E6:SC:=a6 Tryz.f137 0
theorem G5:ST kZ 0 E6:=sT yR
noncomputable def ER:SC:=a6 Tryz.f137 1
theorem IQ:ST kZ 1 ER:=sT yR
noncomputable def ED:SC:=a6 Tryz.f137 2
theorem HF:ST kZ 2 ED:=sT yR
noncomputable def aI8:SC:=aT Tryz.f138
noncomputable def aOg:Nat->Code:=lpOf Tryz.f138
theorem aPO:aL (aO Tryz.f138)=true:=kr
theorem aPJ:FN 138 Tryz.f138 [] ([]) aOg aI8 false [.tmp 6]:=fN 1 Tryz.func138 aPO
noncomputable def QJ:SC:=aT Tryz.f139
noncomputable def vO:Nat->Code:=lpOf Tryz.f139
theorem NG:aL (aO Tryz.f139)=true:=kr
theorem aAX:FN 139 Tryz.f139 [] Bz17 vO QJ false [.tmp 6]:=fN 1 Tryz.func139 NG
noncomputable def yN:SC:=a6 Tryz.f139 0
theorem AE:ST vO 0 yN:=sT NG
noncomputable def yC:SC:=a6 Tryz.f139 1
theorem zJ:ST vO 1 yC:=sT NG
noncomputable def pX:SC:=aT Tryz.f140
noncomputable def fE:Nat->Code:=lpOf Tryz.f140
theorem oC:aL (aO Tryz.f140)=true:=kr
theorem DM:FN 140 Tryz.f140 [] Bz45 fE pX false []:=fN 0 Tryz.func140 oC
noncomputable def eW:SC:=a6 Tryz.f140 0
theorem gF:ST fE 0 eW:=sT oC
noncomputable def S1:SC:=aT Tryz.f142
noncomputable def aFa:Nat->Code:=lpOf Tryz.f142
theorem aFf:aL (aO Tryz.f142)=true:=kr
theorem aFg:FN 142 Tryz.f142 [] (Z2 (U2 (Z4 (U4 (Z32 (Z32 (Z2 (Z1 ([]))))))))) aFa S1 false [.tmp 8]:=fN 2 Tryz.func142 aFf
end
end Ev
end Go.Proofs.YtppffbehejpglaaGreat
