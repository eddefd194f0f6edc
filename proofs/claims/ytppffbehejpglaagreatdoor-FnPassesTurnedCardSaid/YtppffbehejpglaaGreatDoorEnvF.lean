/-
  Each function's code as an equation. Written by a program.
-/
import Derived.Test.YtppffbehejpglaaGreatDoorEnv
set_option linter.unusedSimpArgs false
set_option linter.unusedVariables false
set_option linter.unusedSectionVars false
set_option maxRecDepth 100000
namespace Go.Proofs.YtppffbehejpglaaGreatDoor
namespace Ev
abbrev FN(f:Nat)(fn:Func)(th:List Nat)(lv:List Bool)(lp:Nat->Code)(S:SC)(e:Bool)(rs:List ResultVar):Prop:=∀(L n:Nat) (args:List A) (h:H),aA env L (n+1) f args h=cV env (aA env L n) L h.length th lv lp S (args++List.replicate (fn.ntmps-args.length) (.d .undef)) h (kFin env.P h.length e rs)
theorem fN (mode : Nat) {f : Nat} {fn : Func} {e : Bool} {th : List Nat} {lv : List Bool} {rs : List ResultVar} (hf : env.P.funcs[f]? = some fn) (hd : aL (aP fn) = true) (hp : (env.prim f).isNone = true := by kernel_rfl) (hb : fn.body.isSome = true := by kernel_rfl) (hn : (fn.name == "runtime.NumGoroutine") = false := by kernel_rfl) (hh : env.hint f = ⟨mode, e, th, lv⟩ := by kernel_rfl) (hr : fn.results.toList = rs := by kernel_rfl) : FN f fn th lv (lpOf fn) (aS fn) e rs := fun _ _ _ _ => J0 hp hf hb hn hd hh hr
abbrev ST(lp:Nat->Code)(i:Nat)(S:SC):Prop:=∀(R:Type) (call:a6) (L nf n:Nat) (thaw:List Nat) (live m:List Bool) (s:List A) (h:H) (k:KE R),aT env call L nf thaw live (lp i) m (n+1) s h k=cV env call L nf thaw live lp S s h (aBd env call L nf thaw live (lp i) m n k)
theorem sT{fn:Func}{i:Nat}(hd:aL (aP fn)=true)(hi:((bU (aP fn))[i]?).isSome=true:=by kernel_rfl):ST (lpOf fn) i (aY fn i):=fun _ _ _ _ _ _ _ _ _ _ _=>aFm hd hi
section
variable{R:Type}{call:a6}{L nf n:Nat}{thaw:List Nat}{live m:List Bool}{s args:List A}{h:H}{k:KE R}
noncomputable def eS:SC:=aS Tryz.f3
noncomputable def aBO:Nat->Code:=lpOf Tryz.f3
theorem aBs:aL (aP Tryz.f3)=true:=kr
theorem fH:FN 3 Tryz.f3 [] ([]) aBO eS false [.tmp 2]:=fN 1 Tryz.func3 aBs
noncomputable def CL:SC:=aS Tryz.f5
noncomputable def S8:Nat->Code:=lpOf Tryz.f5
theorem SU:aL (aP Tryz.f5)=true:=kr
theorem UK:FN 5 Tryz.f5 [] ([]) S8 CL false (Tryz.f5.results.toList):=fN 2 Tryz.func5 SU
noncomputable def sB:SC:=aS Tryz.f6
noncomputable def aC2:Nat->Code:=lpOf Tryz.f6
theorem aEh:aL (aP Tryz.f6)=true:=kr
theorem yA:FN 6 Tryz.f6 [] ([]) aC2 sB false [.tmp 6]:=fN 1 Tryz.func6 aEh
noncomputable def mK:SC:=aS Tryz.f7
noncomputable def jP:Nat->Code:=lpOf Tryz.f7
theorem vI:aL (aP Tryz.f7)=true:=kr
theorem n5:FN 7 Tryz.f7 [] Bz2 jP mK true [.tmp 4,.tmp 5]:=fN 3 Tryz.func7 vI
noncomputable def sO:SC:=aY Tryz.f7 0
theorem t8:ST jP 0 sO:=sT vI
noncomputable def sC:SC:=aY Tryz.f7 1
theorem tD:ST jP 1 sC:=sT vI
noncomputable def BO:SC:=aY Tryz.f7 2
theorem FM:ST jP 2 BO:=sT vI
noncomputable def sX:SC:=aS Tryz.f8
noncomputable def aDn:Nat->Code:=lpOf Tryz.f8
theorem aEc:aL (aP Tryz.f8)=true:=kr
theorem x9:FN 8 Tryz.f8 [] ([]) aDn sX false [.tmp 6]:=fN 1 Tryz.func8 aEc
noncomputable def aAZ:SC:=aS Tryz.f9
noncomputable def aUw:Nat->Code:=lpOf Tryz.f9
theorem aS5:aL (aP Tryz.f9)=true:=kr
theorem aDM:FN 9 Tryz.f9 [] ([]) aUw aAZ false [.tmp 4]:=fN 1 Tryz.func9 aS5
noncomputable def zI:SC:=aS Tryz.f10
noncomputable def P1:Nat->Code:=lpOf Tryz.f10
theorem P3:aL (aP Tryz.f10)=true:=kr
theorem PT:FN 10 Tryz.f10 [] ([]) P1 zI false (Tryz.f10.results.toList):=fN 2 Tryz.func10 P3
noncomputable def eX:SC:=aS Tryz.f12
noncomputable def RB:Nat->Code:=lpOf Tryz.f12
theorem QI:aL (aP Tryz.f12)=true:=kr
theorem gH:FN 12 Tryz.f12 [] ([]) RB eX false (Tryz.f12.results.toList):=fN 2 Tryz.func12 QI
noncomputable def lR:SC:=aS Tryz.f13
noncomputable def wE:Nat->Code:=lpOf Tryz.f13
theorem HF:aL (aP Tryz.f13)=true:=kr
theorem nQ:FN 13 Tryz.f13 [] Bz34 wE lR false [.tmp 6,.tmp 7]:=fN 1 Tryz.func13 HF
noncomputable def mL:SC:=aY Tryz.f13 0
theorem oL:ST wE 0 mL:=sT HF
noncomputable def sK:SC:=aS Tryz.f14
noncomputable def aEg:Nat->Code:=lpOf Tryz.f14
theorem aDF:aL (aP Tryz.f14)=true:=kr
theorem yN:FN 14 Tryz.f14 [] ([]) aEg sK false [.tmp 4]:=fN 1 Tryz.func14 aDF
noncomputable def eM:SC:=aS Tryz.f15
noncomputable def jE:Nat->Code:=lpOf Tryz.f15
theorem rT:aL (aP Tryz.f15)=true:=kr
theorem fQ:FN 15 Tryz.f15 [] Bz10 jE eM false [.tmp 2]:=fN 1 Tryz.func15 rT
noncomputable def iK:SC:=aY Tryz.f15 0
theorem i7:ST jE 0 iK:=sT rT
noncomputable def gX:SC:=aY Tryz.f15 1
theorem jB:ST jE 1 gX:=sT rT
noncomputable def WN:SC:=aS Tryz.f16
noncomputable def jH:Nat->Code:=lpOf Tryz.f16
theorem u3:aL (aP Tryz.f16)=true:=kr
theorem aHg:FN 16 Tryz.f16 (W8 (W4 [2002])) Bz6 jH WN false [.tmp 4]:=fN 2 Tryz.func16 u3
noncomputable def A5:SC:=aY Tryz.f16 0
theorem ER:ST jH 0 A5:=sT u3
noncomputable def BG:SC:=aY Tryz.f16 1
theorem F6:ST jH 1 BG:=sT u3
noncomputable def AZ:SC:=aY Tryz.f16 2
theorem F8:ST jH 2 AZ:=sT u3
noncomputable def CI:SC:=aS Tryz.f17
noncomputable def hM:Nat->Code:=lpOf Tryz.f17
theorem pW:aL (aP Tryz.f17)=true:=kr
theorem UF:FN 17 Tryz.f17 [] Bz18 hM CI true [.tmp 2]:=fN 3 Tryz.func17 pW
noncomputable def oN:SC:=aY Tryz.f17 0
theorem tY:ST hM 0 oN:=sT pW
noncomputable def gL:SC:=aY Tryz.f17 1
theorem gT:ST hM 1 gL:=sT pW
noncomputable def RM:SC:=aS Tryz.f18
noncomputable def z7:Nat->Code:=lpOf Tryz.f18
theorem O4:aL (aP Tryz.f18)=true:=kr
theorem aGl:FN 18 Tryz.f18 [0,0,0,2] Bz55 z7 RM true [.tmp 2]:=fN 3 Tryz.func18 O4
noncomputable def qA:SC:=aY Tryz.f18 0
theorem rY:ST z7 0 qA:=sT O4
theorem B6{L n:Nat}{args:List A}{h:H}:aA env L (n+1) 19 args h=CQ 43 21 args h:=by
 have:env.prim 19=some (CQ 43 21):=kr;simp only[aA,this]
noncomputable def iV:SC:=aS Tryz.f20
noncomputable def qN:Nat->Code:=lpOf Tryz.f20
theorem qJ:aL (aP Tryz.f20)=true:=kr
theorem pX:FN 20 Tryz.f20 [] ([]) qN iV true [.tmp 2]:=fN 0 Tryz.func20 qJ
noncomputable def ZC:SC:=aS Tryz.f21
noncomputable def aKf:Nat->Code:=lpOf Tryz.f21
theorem aKc:aL (aP Tryz.f21)=true:=kr
noncomputable def mI:SC:=aS Tryz.f22
noncomputable def jG:Nat->Code:=lpOf Tryz.f22
theorem vK:aL (aP Tryz.f22)=true:=kr
theorem o8:FN 22 Tryz.f22 [] Bz13 jG mI false [.tmp 4,.tmp 5]:=fN 2 Tryz.func22 vK
noncomputable def r8:SC:=aY Tryz.f22 0
theorem tC:ST jG 0 r8:=sT vK
noncomputable def r7:SC:=aY Tryz.f22 1
theorem s7:ST jG 1 r7:=sT vK
noncomputable def sW:SC:=aY Tryz.f22 2
theorem uA:ST jG 2 sW:=sT vK
noncomputable def lN:SC:=aS Tryz.f23
noncomputable def wG:Nat->Code:=lpOf Tryz.f23
theorem HN:aL (aP Tryz.f23)=true:=kr
theorem nT:FN 23 Tryz.f23 [] Bz35 wG lN false [.tmp 6,.tmp 7]:=fN 1 Tryz.func23 HN
noncomputable def mN:SC:=aY Tryz.f23 0
theorem oA:ST wG 0 mN:=sT HN
noncomputable def O3:SC:=aS Tryz.f24
noncomputable def aPB:Nat->Code:=lpOf Tryz.f24
theorem aQA:aL (aP Tryz.f24)=true:=kr
theorem VB:FN 24 Tryz.f24 [] ([]) aPB O3 false [.tmp 4]:=fN 1 Tryz.func24 aQA
noncomputable def aAj:SC:=aS Tryz.f25
noncomputable def qX:Nat->Code:=lpOf Tryz.f25
theorem GN:aL (aP Tryz.f25)=true:=kr
theorem aKA:FN 25 Tryz.f25 (W4 (W2 (W1 [2]))) Bz5 qX aAj false (Tryz.f25.results.toList):=fN 2 Tryz.func25 GN
noncomputable def oC:SC:=aY Tryz.f25 0
theorem nZ:ST qX 0 oC:=sT GN
noncomputable def CW:SC:=aY Tryz.f25 1
theorem HJ:ST qX 1 CW:=sT GN
noncomputable def PI:SC:=aS Tryz.f27
noncomputable def aMj:Nat->Code:=lpOf Tryz.f27
theorem aMO:aL (aP Tryz.f27)=true:=kr
theorem aAE:FN 27 Tryz.f27 [] ([]) aMj PI true [.tmp 2]:=fN 2 Tryz.func27 aMO
noncomputable def jV:SC:=aS Tryz.f28
noncomputable def aLx:Nat->Code:=lpOf Tryz.f28
theorem aL6:aL (aP Tryz.f28)=true:=kr
theorem jZ:FN 28 Tryz.f28 [] ([]) aLx jV false (Tryz.f28.results.toList):=fN 0 Tryz.func28 aL6
noncomputable def eP:SC:=aS Tryz.f29
noncomputable def aKv:Nat->Code:=lpOf Tryz.f29
theorem aJ7:aL (aP Tryz.f29)=true:=kr
theorem eV:FN 29 Tryz.f29 (W32 (W32 (W16 (W8 (W4 (W1 [1002])))))) ([]) aKv eP false (Tryz.f29.results.toList):=fN 0 Tryz.func29 aJ7
noncomputable def o7:SC:=aS Tryz.f30
noncomputable def aEE:Nat->Code:=lpOf Tryz.f30
theorem aEO:aL (aP Tryz.f30)=true:=kr
theorem sF:FN 30 Tryz.f30 [] ([]) aEE o7 false [.tmp 4]:=fN 0 Tryz.func30 aEO
noncomputable def TL:SC:=aS Tryz.f31
noncomputable def aNU:Nat->Code:=lpOf Tryz.f31
theorem aOg:aL (aP Tryz.f31)=true:=kr
theorem aCO:FN 31 Tryz.f31 [] ([]) aNU TL false (Tryz.f31.results.toList):=fN 0 Tryz.func31 aOg
noncomputable def oX:SC:=aS Tryz.f32
noncomputable def PY:Nat->Code:=lpOf Tryz.f32
theorem P6:aL (aP Tryz.f32)=true:=kr
theorem xF:FN 32 Tryz.f32 [] ([]) PY oX false (Tryz.f32.results.toList):=fN 2 Tryz.func32 P6
noncomputable def YY:SC:=aS Tryz.f33
noncomputable def aKa:Nat->Code:=lpOf Tryz.f33
theorem aKu:aL (aP Tryz.f33)=true:=kr
theorem aKr:FN 33 Tryz.f33 [] ([]) aKa YY false [.tmp 2]:=fN 0 Tryz.func33 aKu
noncomputable def OD:SC:=aS Tryz.f34
noncomputable def aDy:Nat->Code:=lpOf Tryz.f34
theorem aD4:aL (aP Tryz.f34)=true:=kr
theorem aEe:FN 34 Tryz.f34 [] ([]) aDy OD false [.tmp 4]:=fN 1 Tryz.func34 aD4
noncomputable def SA:SC:=aS Tryz.f35
noncomputable def aEH:Nat->Code:=lpOf Tryz.f35
theorem aFo:aL (aP Tryz.f35)=true:=kr
theorem aE5:FN 35 Tryz.f35 [] ([]) aEH SA false [.tmp 2]:=fN 1 Tryz.func35 aFo
noncomputable def WT:SC:=aS Tryz.f36
noncomputable def uL:Nat->Code:=lpOf Tryz.f36
theorem SF:aL (aP Tryz.f36)=true:=kr
theorem aHi:FN 36 Tryz.f36 [0,0,0,2] Bz30 uL WT false [.tmp 2]:=fN 2 Tryz.func36 SF
noncomputable def sG:SC:=aY Tryz.f36 0
theorem tA:ST uL 0 sG:=sT SF
noncomputable def RK:SC:=aS Tryz.f37
noncomputable def aEU:Nat->Code:=lpOf Tryz.f37
theorem aFq:aL (aP Tryz.f37)=true:=kr
theorem aGS:FN 37 Tryz.f37 [] ([]) aEU RK false [.tmp 2]:=fN 1 Tryz.func37 aFq
noncomputable def iG:SC:=aS Tryz.f38
noncomputable def aDa:Nat->Code:=lpOf Tryz.f38
theorem aEl:aL (aP Tryz.f38)=true:=kr
theorem jL:FN 38 Tryz.f38 [] ([]) aDa iG false [.tmp 6,.tmp 7]:=fN 1 Tryz.func38 aEl
noncomputable def mE:SC:=aS Tryz.f39
noncomputable def yE:Nat->Code:=lpOf Tryz.f39
theorem yD:aL (aP Tryz.f39)=true:=kr
theorem x8:FN 39 Tryz.f39 [] ([]) yE mE false [.tmp 4]:=fN 1 Tryz.func39 yD
noncomputable def C4:SC:=aS Tryz.f40
noncomputable def aFI:Nat->Code:=lpOf Tryz.f40
theorem aEz:aL (aP Tryz.f40)=true:=kr
theorem O8:FN 40 Tryz.f40 [] ([]) aFI C4 false [.tmp 4,.tmp 5]:=fN 1 Tryz.func40 aEz
theorem wF{L n:Nat}{args:List A}{h:H}:aA env L (n+1) 41 args h=J4 21 args h:=by
 have:env.prim 41=some (J4 21):=kr;simp only[aA,this]
noncomputable def LS:SC:=aS Tryz.f44
noncomputable def qS:Nat->Code:=lpOf Tryz.f44
theorem VX:aL (aP Tryz.f44)=true:=kr
noncomputable def vE:SC:=aY Tryz.f44 0
noncomputable def n4:SC:=aS Tryz.f45
noncomputable def aAs:Nat->Code:=lpOf Tryz.f45
theorem aAm:aL (aP Tryz.f45)=true:=kr
noncomputable def kV:SC:=aS Tryz.f46
noncomputable def QU:Nat->Code:=lpOf Tryz.f46
theorem RQ:aL (aP Tryz.f46)=true:=kr
noncomputable def eO:SC:=aS Tryz.f47
noncomputable def rV:Nat->Code:=lpOf Tryz.f47
theorem CF:aL (aP Tryz.f47)=true:=kr
theorem fS:FN 47 Tryz.f47 [] Bz61 rV eO false [.tmp 2]:=fN 1 Tryz.func47 CF
noncomputable def kS:SC:=aY Tryz.f47 0
theorem mF:ST rV 0 kS:=sT CF
noncomputable def D2:SC:=aS Tryz.f48
noncomputable def zW:Nat->Code:=lpOf Tryz.f48
theorem N0:aL (aP Tryz.f48)=true:=kr
theorem OW:FN 48 Tryz.f48 [] Bz66 zW D2 false [.tmp 2]:=fN 2 Tryz.func48 N0
noncomputable def yI:SC:=aY Tryz.f48 0
theorem B7:ST zW 0 yI:=sT N0
noncomputable def rU:SC:=aS Tryz.f49
noncomputable def iB:Nat->Code:=lpOf Tryz.f49
theorem pO:aL (aP Tryz.f49)=true:=kr
theorem BW:FN 49 Tryz.f49 [] Bz42 iB rU false [.tmp 2]:=fN 2 Tryz.func49 pO
noncomputable def oO:SC:=aY Tryz.f49 0
theorem uK:ST iB 0 oO:=sT pO
noncomputable def gI:SC:=aY Tryz.f49 1
theorem iF:ST iB 1 gI:=sT pO
noncomputable def V8:SC:=aS Tryz.f50
noncomputable def lK:Nat->Code:=lpOf Tryz.f50
theorem DH:aL (aP Tryz.f50)=true:=kr
theorem aHI:FN 50 Tryz.f50 [] Bz14 lK V8 false [.tmp 4]:=fN 2 Tryz.func50 DH
noncomputable def sY:SC:=aY Tryz.f50 0
theorem tT:ST lK 0 sY:=sT DH
noncomputable def B0:SC:=aY Tryz.f50 1
theorem EP:ST lK 1 B0:=sT DH
noncomputable def H3:SC:=aS Tryz.f51
noncomputable def PX:Nat->Code:=lpOf Tryz.f51
theorem aCD:aL (aP Tryz.f51)=true:=kr
theorem P2:FN 51 Tryz.f51 [] Bz62 PX H3 false [.tmp 4]:=fN 0 Tryz.func51 aCD
noncomputable def J3:SC:=aY Tryz.f51 0
theorem MU:ST PX 0 J3:=sT aCD
noncomputable def O0:SC:=aS Tryz.f52
noncomputable def aEd:Nat->Code:=lpOf Tryz.f52
theorem aEs:aL (aP Tryz.f52)=true:=kr
theorem aDB:FN 52 Tryz.f52 [] ([]) aEd O0 false [.tmp 4]:=fN 1 Tryz.func52 aEs
noncomputable def VP:SC:=aS Tryz.f53
noncomputable def fA:Nat->Code:=lpOf Tryz.f53
theorem oD:aL (aP Tryz.f53)=true:=kr
theorem aHf:FN 53 Tryz.f53 [] Bz0 fA VP false [.tmp 2]:=fN 2 Tryz.func53 oD
noncomputable def sR:SC:=aY Tryz.f53 0
theorem s8:ST fA 0 sR:=sT oD
noncomputable def A1:SC:=aY Tryz.f53 1
theorem FS:ST fA 1 A1:=sT oD
noncomputable def sS:SC:=aY Tryz.f53 2
theorem tX:ST fA 2 sS:=sT oD
noncomputable def BY:SC:=aY Tryz.f53 3
theorem FW:ST fA 3 BY:=sT oD
noncomputable def aNe:SC:=aS Tryz.f54
noncomputable def YH:Nat->Code:=lpOf Tryz.f54
theorem aJJ:aL (aP Tryz.f54)=true:=kr
theorem aRy:FN 54 Tryz.f54 [] Bz26 YH aNe false (Tryz.f54.results.toList):=fN 2 Tryz.func54 aJJ
noncomputable def IJ:SC:=aY Tryz.f54 0
theorem GE:ST YH 0 IJ:=sT aJJ
noncomputable def NS:SC:=aS Tryz.f55
noncomputable def aDN:Nat->Code:=lpOf Tryz.f55
theorem aDi:aL (aP Tryz.f55)=true:=kr
theorem aDL:FN 55 Tryz.f55 [] ([]) aDN NS false [.tmp 10,.tmp 11]:=fN 1 Tryz.func55 aDi
noncomputable def dB:SC:=aS Tryz.f57
noncomputable def BT:Nat->Code:=lpOf Tryz.f57
theorem Z3:aL (aP Tryz.f57)=true:=kr
theorem cW:FN 57 Tryz.f57 (W32 (W32 (W16 (W2 (W1 [1002,0,0,0,0,0,0,0,0,0,0,0,0,0,0,0,0,0,0,0,0,0,1002]))))) Bz22 BT dB false (Tryz.f57.results.toList):=fN 0 Tryz.func57 Z3
noncomputable def xN:SC:=aY Tryz.f57 0
theorem yG:ST BT 0 xN:=sT Z3
noncomputable def aIO:SC:=aS Tryz.f58
noncomputable def IG:Nat->Code:=lpOf Tryz.f58
theorem aFb:aL (aP Tryz.f58)=true:=kr
theorem aQB:FN 58 Tryz.f58 [] Bz25 IG aIO false (Tryz.f58.results.toList):=fN 0 Tryz.func58 aFb
noncomputable def D5:SC:=aY Tryz.f58 0
theorem D1:ST IG 0 D5:=sT aFb
noncomputable def YV:SC:=aS Tryz.f59
noncomputable def kD:Nat->Code:=lpOf Tryz.f59
theorem GB:aL (aP Tryz.f59)=true:=kr
theorem aKb:FN 59 Tryz.f59 (W32 (W4 (W1 [1002]))) Bz7 kD YV true (Tryz.f59.results.toList):=fN 0 Tryz.func59 GB
noncomputable def vH:SC:=aY Tryz.f59 0
theorem wA:ST kD 0 vH:=sT GB
noncomputable def oR:SC:=aY Tryz.f59 1
theorem nW:ST kD 1 oR:=sT GB
noncomputable def TA:SC:=aS Tryz.f60
noncomputable def rO:Nat->Code:=lpOf Tryz.f60
theorem aCe:aL (aP Tryz.f60)=true:=kr
theorem aC1:FN 60 Tryz.f60 (W16 (W8 (W4 [1002]))) Bz16 rO TA true (Tryz.f60.results.toList):=fN 2 Tryz.func60 aCe
noncomputable def tP:SC:=aY Tryz.f60 0
theorem sV:ST rO 0 tP:=sT aCe
noncomputable def aAF:SC:=aS Tryz.f62
noncomputable def aJ5:Nat->Code:=lpOf Tryz.f62
theorem aJ9:aL (aP Tryz.f62)=true:=kr
theorem aKy:FN 62 Tryz.f62 [] ([]) aJ5 aAF false [.tmp 4]:=fN 0 Tryz.func62 aJ9
noncomputable def U5:SC:=aS Tryz.f64
noncomputable def aNZ:Nat->Code:=lpOf Tryz.f64
theorem aNX:aL (aP Tryz.f64)=true:=kr
theorem aCa:FN 64 Tryz.f64 [] ([]) aNZ U5 false (Tryz.f64.results.toList):=fN 0 Tryz.func64 aNX
noncomputable def VF:SC:=aS Tryz.f65
noncomputable def aHC:Nat->Code:=lpOf Tryz.f65
theorem aHY:aL (aP Tryz.f65)=true:=kr
theorem aHs:FN 65 Tryz.f65 [] ([]) aHC VF false [.tmp 4]:=fN 0 Tryz.func65 aHY
noncomputable def VI:SC:=aS Tryz.f66
noncomputable def pA:Nat->Code:=lpOf Tryz.f66
theorem CP:aL (aP Tryz.f66)=true:=kr
theorem aHc:FN 66 Tryz.f66 [] Bz33 pA VI false (Tryz.f66.results.toList):=fN 2 Tryz.func66 CP
noncomputable def s5:SC:=aY Tryz.f66 0
theorem uE:ST pA 0 s5:=sT CP
noncomputable def zX:SC:=aY Tryz.f66 1
theorem FU:ST pA 1 zX:=sT CP
noncomputable def uT:SC:=aS Tryz.f67
noncomputable def BX:Nat->Code:=lpOf Tryz.f67
theorem ND:aL (aP Tryz.f67)=true:=kr
theorem BB:FN 67 Tryz.f67 [] Bz37 BX uT false [.tmp 4]:=fN 1 Tryz.func67 ND
noncomputable def yC:SC:=aY Tryz.f67 0
theorem B9:ST BX 0 yC:=sT ND
noncomputable def aOL:SC:=aS Tryz.f68
noncomputable def aTw:Nat->Code:=lpOf Tryz.f68
theorem aUA:aL (aP Tryz.f68)=true:=kr
theorem aTU:FN 68 Tryz.f68 [] ([]) aTw aOL false [.tmp 4]:=fN 1 Tryz.func68 aUA
noncomputable def ES:SC:=aS Tryz.f69
noncomputable def W3:Nat->Code:=lpOf Tryz.f69
theorem XE:aL (aP Tryz.f69)=true:=kr
theorem WW:FN 69 Tryz.f69 [] ([]) W3 ES false [.tmp 4]:=fN 0 Tryz.func69 XE
noncomputable def jO:SC:=aS Tryz.f70
noncomputable def iZ:Nat->Code:=lpOf Tryz.f70
theorem nN:aL (aP Tryz.f70)=true:=kr
theorem nO:FN 70 Tryz.f70 [] Bz58 iZ jO false [.tmp 4]:=fN 1 Tryz.func70 nN
noncomputable def eG:SC:=aY Tryz.f70 0
theorem fW:ST iZ 0 eG:=sT nN
noncomputable def V2:SC:=aS Tryz.f71
noncomputable def aHB:Nat->Code:=lpOf Tryz.f71
theorem aHJ:aL (aP Tryz.f71)=true:=kr
theorem aG2:FN 71 Tryz.f71 [] ([]) aHB V2 false [.tmp 4,.tmp 5]:=fN 1 Tryz.func71 aHJ
noncomputable def wH:SC:=aS Tryz.f72
noncomputable def ZF:Nat->Code:=lpOf Tryz.f72
theorem aAA:aL (aP Tryz.f72)=true:=kr
theorem EQ:FN 72 Tryz.f72 [] ([]) ZF wH false [.tmp 3]:=fN 0 Tryz.func72 aAA
noncomputable def OH:SC:=aS Tryz.f76
noncomputable def aEk:Nat->Code:=lpOf Tryz.f76
theorem aDb:aL (aP Tryz.f76)=true:=kr
noncomputable def FH:SC:=aS Tryz.f77
noncomputable def WX:Nat->Code:=lpOf Tryz.f77
theorem XG:aL (aP Tryz.f77)=true:=kr
noncomputable def RW:SC:=aS Tryz.f78
noncomputable def aGM:Nat->Code:=lpOf Tryz.f78
theorem aE4:aL (aP Tryz.f78)=true:=kr
theorem aGJ:FN 78 Tryz.f78 [] ([]) aGM RW false [.tmp 2]:=fN 1 Tryz.func78 aE4
noncomputable def NR:SC:=aS Tryz.f79
noncomputable def U9:Nat->Code:=lpOf Tryz.f79
theorem aF3:aL (aP Tryz.f79)=true:=kr
theorem S7:FN 79 Tryz.f79 [] Bz39 U9 NR false [.tmp 6]:=fN 1 Tryz.func79 aF3
noncomputable def wV:SC:=aY Tryz.f79 0
theorem vA:ST U9 0 wV:=sT aF3
noncomputable def WH:SC:=aS Tryz.f80
noncomputable def DU:Nat->Code:=lpOf Tryz.f80
theorem R0:aL (aP Tryz.f80)=true:=kr
theorem aHR:FN 80 Tryz.f80 [] Bz59 DU WH false [.tmp 2]:=fN 2 Tryz.func80 R0
noncomputable def sA:SC:=aY Tryz.f80 0
theorem tO:ST DU 0 sA:=sT R0
noncomputable def aGp:SC:=aS Tryz.f81
noncomputable def wL:Nat->Code:=lpOf Tryz.f81
theorem PP:aL (aP Tryz.f81)=true:=kr
theorem aNV:FN 81 Tryz.f81 [] Bz23 wL aGp false (Tryz.f81.results.toList):=fN 2 Tryz.func81 PP
noncomputable def BP:SC:=aY Tryz.f81 0
theorem AB:ST wL 0 BP:=sT PP
noncomputable def KO:SC:=aY Tryz.f81 1
theorem NA:ST wL 1 KO:=sT PP
noncomputable def uO:SC:=aS Tryz.f82
noncomputable def aGx:Nat->Code:=lpOf Tryz.f82
theorem aFn:aL (aP Tryz.f82)=true:=kr
theorem AN:FN 82 Tryz.f82 [] ([]) aGx uO false [.tmp 4,.tmp 5]:=fN 1 Tryz.func82 aFn
noncomputable def mX:SC:=aS Tryz.f83
noncomputable def aC5:Nat->Code:=lpOf Tryz.f83
theorem aDU:aL (aP Tryz.f83)=true:=kr
theorem pV:FN 83 Tryz.f83 [] ([]) aC5 mX false [.tmp 6,.tmp 7]:=fN 1 Tryz.func83 aDU
noncomputable def aAo:SC:=aS Tryz.f84
noncomputable def TC:Nat->Code:=lpOf Tryz.f84
theorem aGa:aL (aP Tryz.f84)=true:=kr
theorem aGu:FN 84 Tryz.f84 [] Bz38 TC aAo false [.tmp 4]:=fN 1 Tryz.func84 aGa
noncomputable def ED:SC:=aY Tryz.f84 0
theorem DS:ST TC 0 ED:=sT aGa
noncomputable def aGV:SC:=aS Tryz.f85
noncomputable def aOc:Nat->Code:=lpOf Tryz.f85
theorem aNt:aL (aP Tryz.f85)=true:=kr
theorem aOp:FN 85 Tryz.f85 [] ([]) aOc aGV false [.tmp 2]:=fN 1 Tryz.func85 aNt
noncomputable def YC:SC:=aS Tryz.f86
noncomputable def GU:Nat->Code:=lpOf Tryz.f86
theorem VT:aL (aP Tryz.f86)=true:=kr
theorem aKE:FN 86 Tryz.f86 [] Bz63 GU YC false [.tmp 4]:=fN 1 Tryz.func86 VT
noncomputable def pD:SC:=aY Tryz.f86 0
theorem nP:ST GU 0 pD:=sT VT
noncomputable def SL:SC:=aS Tryz.f87
noncomputable def aFi:Nat->Code:=lpOf Tryz.f87
theorem aE2:aL (aP Tryz.f87)=true:=kr
theorem aGD:FN 87 Tryz.f87 [] ([]) aFi SL false [.tmp 4]:=fN 1 Tryz.func87 aE2
noncomputable def SK:SC:=aS Tryz.f88
noncomputable def aEG:Nat->Code:=lpOf Tryz.f88
theorem aED:aL (aP Tryz.f88)=true:=kr
theorem aFH:FN 88 Tryz.f88 [] ([]) aEG SK false [.tmp 2]:=fN 1 Tryz.func88 aED
noncomputable def aCG:SC:=aS Tryz.f89
noncomputable def lZ:Nat->Code:=lpOf Tryz.f89
theorem BV:aL (aP Tryz.f89)=true:=kr
theorem aLJ:FN 89 Tryz.f89 [] Bz4 lZ aCG false [.tmp 2]:=fN 2 Tryz.func89 BV
noncomputable def GA:SC:=aY Tryz.f89 0
theorem LQ:ST lZ 0 GA:=sT BV
noncomputable def GW:SC:=aY Tryz.f89 1
theorem JZ:ST lZ 1 GW:=sT BV
noncomputable def G8:SC:=aY Tryz.f89 2
theorem L0:ST lZ 2 G8:=sT BV
noncomputable def JG:SC:=aS Tryz.f90
noncomputable def iT:Nat->Code:=lpOf Tryz.f90
theorem wC:aL (aP Tryz.f90)=true:=kr
theorem aBq:FN 90 Tryz.f90 (W8 (W4 (W1 [2,0,2]))) Bz9 iT JG false [.tmp 8,.tmp 9,.tmp 10]:=fN 2 Tryz.func90 wC
noncomputable def uI:SC:=aY Tryz.f90 0
theorem zE:ST iT 0 uI:=sT wC
noncomputable def mQ:SC:=aY Tryz.f90 1
theorem oP:ST iT 1 mQ:=sT wC
noncomputable def aCv:SC:=aS Tryz.f91
noncomputable def aMN:Nat->Code:=lpOf Tryz.f91
theorem aMw:aL (aP Tryz.f91)=true:=kr
theorem aM5:FN 91 Tryz.f91 [] ([]) aMN aCv false [.tmp 5]:=fN 0 Tryz.func91 aMw
noncomputable def FL:SC:=aS Tryz.f92
noncomputable def W9:Nat->Code:=lpOf Tryz.f92
theorem XA:aL (aP Tryz.f92)=true:=kr
theorem XD:FN 92 Tryz.f92 [] ([]) W9 FL false [.tmp 9]:=fN 0 Tryz.func92 XA
noncomputable def x3:SC:=aS Tryz.f93
noncomputable def jK:Nat->Code:=lpOf Tryz.f93
theorem u5:aL (aP Tryz.f93)=true:=kr
theorem CY:FN 93 Tryz.f93 (W16 (W2 [2])) Bz3 jK x3 false [.tmp 10,.tmp 11]:=fN 1 Tryz.func93 u5
noncomputable def mZ:SC:=aY Tryz.f93 0
theorem m4:ST jK 0 mZ:=sT u5
noncomputable def sQ:SC:=aY Tryz.f93 1
theorem uC:ST jK 1 sQ:=sT u5
noncomputable def BH:SC:=aY Tryz.f93 2
theorem FE:ST jK 2 BH:=sT u5
noncomputable def EL:SC:=aS Tryz.f94
noncomputable def WZ:Nat->Code:=lpOf Tryz.f94
theorem W7:aL (aP Tryz.f94)=true:=kr
theorem W0:FN 94 Tryz.f94 [] ([]) WZ EL false [.tmp 6]:=fN 0 Tryz.func94 W7
noncomputable def aE1:SC:=aS Tryz.f99
noncomputable def rG:Nat->Code:=lpOf Tryz.f99
theorem PW:aL (aP Tryz.f99)=true:=kr
theorem aNN:FN 99 Tryz.f99 [] Bz12 rG aE1 false (Tryz.f99.results.toList):=fN 0 Tryz.func99 PW
noncomputable def KU:SC:=aY Tryz.f99 0
theorem M9:ST rG 0 KU:=sT PW
noncomputable def K4:SC:=aY Tryz.f99 1
theorem OE:ST rG 1 K4:=sT PW
noncomputable def V1:SC:=aS Tryz.f100
noncomputable def oT:Nat->Code:=lpOf Tryz.f100
theorem DK:aL (aP Tryz.f100)=true:=kr
theorem aHT:FN 100 Tryz.f100 [] Bz29 oT V1 false [.tmp 2,.tmp 3]:=fN 2 Tryz.func100 DK
noncomputable def sL:SC:=aY Tryz.f100 0
theorem t6:ST oT 0 sL:=sT DK
noncomputable def z8:SC:=aY Tryz.f100 1
theorem FO:ST oT 1 z8:=sT DK
noncomputable def aCK:SC:=aS Tryz.f101
noncomputable def JH:Nat->Code:=lpOf Tryz.f101
theorem XZ:aL (aP Tryz.f101)=true:=kr
theorem aLi:FN 101 Tryz.f101 [] Bz69 JH aCK false [.tmp 4]:=fN 1 Tryz.func101 XZ
noncomputable def GK:SC:=aY Tryz.f101 0
theorem K6:ST JH 0 GK:=sT XZ
noncomputable def pC:SC:=aS Tryz.f102
noncomputable def BK:Nat->Code:=lpOf Tryz.f102
theorem PA:aL (aP Tryz.f102)=true:=kr
theorem sE:FN 102 Tryz.f102 [] Bz52 BK pC false [.tmp 4]:=fN 1 Tryz.func102 PA
noncomputable def pR:SC:=aY Tryz.f102 0
theorem rZ:ST BK 0 pR:=sT PA
noncomputable def aAe:SC:=aS Tryz.f103
noncomputable def aJ4:Nat->Code:=lpOf Tryz.f103
theorem aJ8:aL (aP Tryz.f103)=true:=kr
theorem aJ1:FN 103 Tryz.f103 [] ([]) aJ4 aAe false [.tmp 4]:=fN 1 Tryz.func103 aJ8
noncomputable def KL:SC:=aS Tryz.f104
noncomputable def aBw:Nat->Code:=lpOf Tryz.f104
theorem aBn:aL (aP Tryz.f104)=true:=kr
theorem aBr:FN 104 Tryz.f104 [] ([]) aBw KL false [.tmp 7]:=fN 0 Tryz.func104 aBn
noncomputable def aIM:SC:=aS Tryz.f115
noncomputable def aP5:Nat->Code:=lpOf Tryz.f115
theorem aPA:aL (aP Tryz.f115)=true:=kr
theorem aQL:FN 115 Tryz.f115 [] ([]) aP5 aIM false [.tmp 4]:=fN 1 Tryz.func115 aPA
noncomputable def aB3:SC:=aS Tryz.f116
noncomputable def oK:Nat->Code:=lpOf Tryz.f116
theorem KJ:aL (aP Tryz.f116)=true:=kr
theorem aMM:FN 116 Tryz.f116 [] Bz36 oK aB3 false [.tmp 2]:=fN 2 Tryz.func116 KJ
noncomputable def GQ:SC:=aY Tryz.f116 0
theorem J9:ST oK 0 GQ:=sT KJ
noncomputable def xR:SC:=aY Tryz.f116 1
theorem x7:ST oK 1 xR:=sT KJ
noncomputable def D8:SC:=aS Tryz.f117
noncomputable def aLQ:Nat->Code:=lpOf Tryz.f117
theorem aM1:aL (aP Tryz.f117)=true:=kr
theorem JU:FN 117 Tryz.f117 [] ([]) aLQ D8 false [.tmp 4]:=fN 1 Tryz.func117 aM1
noncomputable def D7:SC:=aS Tryz.f118
noncomputable def eA:Nat->Code:=lpOf Tryz.f118
theorem uH:aL (aP Tryz.f118)=true:=kr
theorem LE:FN 118 Tryz.f118 [] Bz1 eA D7 false [.tmp 2,.tmp 3]:=fN 1 Tryz.func118 uH
noncomputable def GG:SC:=aY Tryz.f118 0
theorem KI:ST eA 0 GG:=sT uH
noncomputable def xV:SC:=aY Tryz.f118 1
theorem yM:ST eA 1 xV:=sT uH
noncomputable def qZ:SC:=aY Tryz.f118 2
theorem qL:ST eA 2 qZ:=sT uH
noncomputable def rA:SC:=aY Tryz.f118 3
theorem qH:ST eA 3 rA:=sT uH
noncomputable def u9:SC:=aS Tryz.f119
noncomputable def aEQ:Nat->Code:=lpOf Tryz.f119
theorem aFL:aL (aP Tryz.f119)=true:=kr
theorem AA:FN 119 Tryz.f119 [] ([]) aEQ u9 false [.tmp 4]:=fN 1 Tryz.func119 aFL
noncomputable def SG:SC:=aS Tryz.f120
noncomputable def aGh:Nat->Code:=lpOf Tryz.f120
theorem aFk:aL (aP Tryz.f120)=true:=kr
theorem aFl:FN 120 Tryz.f120 [] ([]) aGh SG false [.tmp 4]:=fN 1 Tryz.func120 aFk
noncomputable def aJl:SC:=aS Tryz.f121
noncomputable def TD:Nat->Code:=lpOf Tryz.f121
theorem aGF:aL (aP Tryz.f121)=true:=kr
theorem aQO:FN 121 Tryz.f121 [] Bz53 TD aJl false [.tmp 6]:=fN 1 Tryz.func121 aGF
noncomputable def P9:SC:=aY Tryz.f121 0
theorem RP:ST TD 0 P9:=sT aGF
noncomputable def vU:SC:=aS Tryz.f122
noncomputable def ML:Nat->Code:=lpOf Tryz.f122
theorem JY:aL (aP Tryz.f122)=true:=kr
theorem MG:FN 122 Tryz.f122 [] ([]) ML vU false [.tmp 2]:=fN 1 Tryz.func122 JY
noncomputable def qC:SC:=aS Tryz.f123
noncomputable def nY:Nat->Code:=lpOf Tryz.f123
theorem HU:aL (aP Tryz.f123)=true:=kr
theorem wB:FN 123 Tryz.f123 (W8 (W2 [2])) Bz11 nY qC false [.tmp 9]:=fN 0 Tryz.func123 HU
noncomputable def cM:SC:=aY Tryz.f123 0
theorem cI:ST nY 0 cM:=sT HU
noncomputable def Y6:SC:=aS Tryz.f124
noncomputable def G9:Nat->Code:=lpOf Tryz.f124
theorem VL:aL (aP Tryz.f124)=true:=kr
theorem aKg:FN 124 Tryz.f124 [0,0,0,2] Bz47 G9 Y6 false [.tmp 2]:=fN 1 Tryz.func124 VL
noncomputable def CS:SC:=aY Tryz.f124 0
theorem HR:ST G9 0 CS:=sT VL
noncomputable def Y0:SC:=aS Tryz.f128
noncomputable def mH:Nat->Code:=lpOf Tryz.f128
theorem GP:aL (aP Tryz.f128)=true:=kr
theorem aKq:FN 128 Tryz.f128 [] Bz15 mH Y0 false [.tmp 4,.tmp 5]:=fN 2 Tryz.func128 GP
noncomputable def vG:SC:=aY Tryz.f128 0
theorem wI:ST mH 0 vG:=sT GP
noncomputable def o6:SC:=aY Tryz.f128 1
theorem nX:ST mH 1 o6:=sT GP
noncomputable def aDz:SC:=aS Tryz.f134
noncomputable def aAw:Nat->Code:=lpOf Tryz.f134
theorem aJC:aL (aP Tryz.f134)=true:=kr
theorem aIx:FN 134 Tryz.f134 [] Bz38 aAw aDz false [.tmp 4]:=fN 1 Tryz.func134 aJC
noncomputable def IP:SC:=aY Tryz.f134 0
theorem GL:ST aAw 0 IP:=sT aJC
noncomputable def aC0:SC:=aS Tryz.f135
noncomputable def tU:Nat->Code:=lpOf Tryz.f135
theorem KG:aL (aP Tryz.f135)=true:=kr
theorem aNs:FN 135 Tryz.f135 [] Bz43 tU aC0 false [.tmp 2]:=fN 2 Tryz.func135 KG
noncomputable def G7:SC:=aY Tryz.f135 0
theorem MJ:ST tU 0 G7:=sT KG
noncomputable def GF:SC:=aY Tryz.f135 1
theorem KB:ST tU 1 GF:=sT KG
noncomputable def aCi:SC:=aS Tryz.f136
noncomputable def tH:Nat->Code:=lpOf Tryz.f136
theorem ME:aL (aP Tryz.f136)=true:=kr
theorem aMi:FN 136 Tryz.f136 [] Bz19 tH aCi false [.tmp 6]:=fN 2 Tryz.func136 ME
noncomputable def G6:SC:=aY Tryz.f136 0
theorem MA:ST tH 0 G6:=sT ME
noncomputable def GX:SC:=aY Tryz.f136 1
theorem JW:ST tH 1 GX:=sT ME
noncomputable def nC:SC:=aS Tryz.f137
noncomputable def aLn:Nat->Code:=lpOf Tryz.f137
theorem aLv:aL (aP Tryz.f137)=true:=kr
theorem oG:FN 137 Tryz.f137 [] (Z2 (U1 (Z2 (Z1 (U2 (Z32 (Z16 (Z8 ([]))))))))) aLn nC false [.tmp 6]:=fN 1 Tryz.func137 aLv
noncomputable def aAP:SC:=aS Tryz.f138
noncomputable def GD:Nat->Code:=lpOf Tryz.f138
theorem WB:aL (aP Tryz.f138)=true:=kr
theorem aJ0:FN 138 Tryz.f138 [] Bz56 GD aAP false [.tmp 4]:=fN 2 Tryz.func138 WB
noncomputable def CR:SC:=aY Tryz.f138 0
theorem HO:ST GD 0 CR:=sT WB
noncomputable def aGy:SC:=aS Tryz.f139
noncomputable def rN:Nat->Code:=lpOf Tryz.f139
theorem PQ:aL (aP Tryz.f139)=true:=kr
theorem aOo:FN 139 Tryz.f139 [] Bz21 rN aGy false []:=fN 0 Tryz.func139 PQ
noncomputable def A0:SC:=aY Tryz.f139 0
theorem A8:ST rN 0 A0:=sT PQ
noncomputable def uB:SC:=aY Tryz.f139 1
theorem r6:ST rN 1 uB:=sT PQ
noncomputable def ZT:SC:=aS Tryz.f140
noncomputable def GJ:Nat->Code:=lpOf Tryz.f140
theorem WJ:aL (aP Tryz.f140)=true:=kr
theorem aKz:FN 140 Tryz.f140 [] Bz64 GJ ZT false [.tmp 4]:=fN 1 Tryz.func140 WJ
noncomputable def DP:SC:=aY Tryz.f140 0
theorem HS:ST GJ 0 DP:=sT WJ
noncomputable def XX:SC:=aS Tryz.f141
noncomputable def rC:Nat->Code:=lpOf Tryz.f141
theorem GC:aL (aP Tryz.f141)=true:=kr
theorem aKe:FN 141 Tryz.f141 [] Bz24 rC XX false [.tmp 10]:=fN 2 Tryz.func141 GC
noncomputable def C0:SC:=aY Tryz.f141 0
theorem HH:ST rC 0 C0:=sT GC
noncomputable def oU:SC:=aY Tryz.f141 1
theorem nS:ST rC 1 oU:=sT GC
noncomputable def xU:SC:=aS Tryz.f142
noncomputable def DW:Nat->Code:=lpOf Tryz.f142
theorem RN:aL (aP Tryz.f142)=true:=kr
theorem C9:FN 142 Tryz.f142 [] Bz65 DW xU false [.tmp 2]:=fN 1 Tryz.func142 RN
noncomputable def m6:SC:=aY Tryz.f142 0
theorem mO:ST DW 0 m6:=sT RN
noncomputable def R1:SC:=aS Tryz.f143
noncomputable def BF:Nat->Code:=lpOf Tryz.f143
theorem M3:aL (aP Tryz.f143)=true:=kr
theorem aGn:FN 143 Tryz.f143 [] (U1 (Z1 (U4 (Z16 ([]))))) BF R1 false [.tmp 2,.tmp 3]:=fN 1 Tryz.func143 M3
noncomputable def yF:SC:=aY Tryz.f143 0
theorem CB:ST BF 0 yF:=sT M3
noncomputable def aDJ:SC:=aS Tryz.f144
noncomputable def aRe:Nat->Code:=lpOf Tryz.f144
theorem aQ3:aL (aP Tryz.f144)=true:=kr
theorem aIl:FN 144 Tryz.f144 [] ([]) aRe aDJ false [.tmp 6]:=fN 1 Tryz.func144 aQ3
noncomputable def aMc:SC:=aS Tryz.f145
noncomputable def aRx:Nat->Code:=lpOf Tryz.f145
theorem aRz:aL (aP Tryz.f145)=true:=kr
theorem aSM:FN 145 Tryz.f145 [] ([]) aRx aMc false [.tmp 4]:=fN 1 Tryz.func145 aRz
noncomputable def pB:SC:=aS Tryz.f146
noncomputable def B1:Nat->Code:=lpOf Tryz.f146
theorem B4:aL (aP Tryz.f146)=true:=kr
theorem B3:FN 146 Tryz.f146 [] ([]) B1 pB false [.tmp 4]:=fN 1 Tryz.func146 B4
noncomputable def rE:SC:=aS Tryz.f147
noncomputable def fI:Nat->Code:=lpOf Tryz.f147
theorem pL:aL (aP Tryz.f147)=true:=kr
theorem F2:FN 147 Tryz.f147 [] Bz48 fI rE false []:=fN 0 Tryz.func147 pL
noncomputable def eY:SC:=aY Tryz.f147 0
theorem gR:ST fI 0 eY:=sT pL
noncomputable def IR:SC:=aS Tryz.f148
noncomputable def QA:Nat->Code:=lpOf Tryz.f148
theorem aCu:aL (aP Tryz.f148)=true:=kr
theorem PO:FN 148 Tryz.f148 [] Bz49 QA IR false [.tmp 8]:=fN 1 Tryz.func148 aCu
noncomputable def AW:SC:=aY Tryz.f148 0
theorem BZ:ST QA 0 AW:=sT aCu
noncomputable def aCp:SC:=aS Tryz.f150
noncomputable def lT:Nat->Code:=lpOf Tryz.f150
theorem A3:aL (aP Tryz.f150)=true:=kr
theorem aLF:FN 150 Tryz.f150 [] Bz8 lT aCp false [.tmp 8]:=fN 2 Tryz.func150 A3
noncomputable def GO:SC:=aY Tryz.f150 0
theorem JK:ST lT 0 GO:=sT A3
noncomputable def G0:SC:=aY Tryz.f150 1
theorem LZ:ST lT 1 G0:=sT A3
noncomputable def G5:SC:=aY Tryz.f150 2
theorem KW:ST lT 2 G5:=sT A3
noncomputable def aMg:SC:=aS Tryz.f151
noncomputable def aSi:Nat->Code:=lpOf Tryz.f151
theorem aSv:aL (aP Tryz.f151)=true:=kr
theorem aR0:FN 151 Tryz.f151 [] ([]) aSi aMg false [.tmp 6]:=fN 1 Tryz.func151 aSv
noncomputable def S3:SC:=aS Tryz.f152
noncomputable def xG:Nat->Code:=lpOf Tryz.f152
theorem PV:aL (aP Tryz.f152)=true:=kr
theorem aCh:FN 152 Tryz.f152 [] Bz20 xG S3 false [.tmp 6]:=fN 1 Tryz.func152 PV
noncomputable def z6:SC:=aY Tryz.f152 0
theorem BE:ST xG 0 z6:=sT PV
noncomputable def AS:SC:=aY Tryz.f152 1
theorem zV:ST xG 1 AS:=sT PV
noncomputable def aJj:SC:=aS Tryz.f153
noncomputable def aPX:Nat->Code:=lpOf Tryz.f153
theorem aQr:aL (aP Tryz.f153)=true:=kr
theorem aPD:FN 153 Tryz.f153 [] ([]) aPX aJj false [.tmp 2]:=fN 1 Tryz.func153 aQr
noncomputable def aCH:SC:=aS Tryz.f154
noncomputable def LO:Nat->Code:=lpOf Tryz.f154
theorem XN:aL (aP Tryz.f154)=true:=kr
theorem aMY:FN 154 Tryz.f154 [] Bz60 LO aCH false [.tmp 4]:=fN 1 Tryz.func154 XN
noncomputable def xO:SC:=aY Tryz.f154 0
theorem yK:ST LO 0 xO:=sT XN
noncomputable def hU:SC:=aS Tryz.f155
noncomputable def H9:Nat->Code:=lpOf Tryz.f155
theorem IF:aL (aP Tryz.f155)=true:=kr
theorem kX:FN 155 Tryz.f155 [] ([]) H9 hU false [.tmp 2]:=fN 1 Tryz.func155 IF
noncomputable def V7:SC:=aS Tryz.f159
noncomputable def aHv:Nat->Code:=lpOf Tryz.f159
theorem aG1:aL (aP Tryz.f159)=true:=kr
theorem aHo:FN 159 Tryz.f159 [] (Z2 (U2 (Z4 (U4 (Z32 (Z32 (Z2 (Z1 ([]))))))))) aHv V7 false [.tmp 8]:=fN 2 Tryz.func159 aG1
end
end Ev
end Go.Proofs.YtppffbehejpglaaGreatDoor
