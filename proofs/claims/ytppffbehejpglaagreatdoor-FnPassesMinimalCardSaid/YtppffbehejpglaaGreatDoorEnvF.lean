/-
  Each function's code as an equation. Written by a program.
-/
import Derived.Test.YtppffbehejpglaaGreatDoorEnv
set_option linter.unusedSimpArgs false
set_option linter.unusedVariables false
set_option linter.unusedSectionVars false
set_option maxRecDepth 100000
namespace Go.Proofs.YtppffbehejpglaaGreatDoor
namespace Ev
abbrev FN(f:Nat)(fn:Func)(th:List Nat)(lv:List Bool)(lp:Nat->Code)(S:SC)(e:Bool)(rs:List ResultVar):Prop:=∀(L n:Nat) (args:List A) (h:H),aA env L (n+1) f args h=cT env (aA env L n) L h.length th lv lp S (args++List.replicate (fn.ntmps-args.length) (.d .undef)) h (kFin env.P h.length e rs)
theorem fN (mode : Nat) {f : Nat} {fn : Func} {e : Bool} {th : List Nat} {lv : List Bool} {rs : List ResultVar} (hf : env.P.funcs[f]? = some fn) (hd : aL (aP fn) = true) (hp : (env.prim f).isNone = true := by kernel_rfl) (hb : fn.body.isSome = true := by kernel_rfl) (hn : (fn.name == "runtime.NumGoroutine") = false := by kernel_rfl) (hh : env.hint f = ⟨mode, e, th, lv⟩ := by kernel_rfl) (hr : fn.results.toList = rs := by kernel_rfl) : FN f fn th lv (lpOf fn) (aS fn) e rs := fun _ _ _ _ => LT hp hf hb hn hd hh hr
abbrev ST(lp:Nat->Code)(i:Nat)(S:SC):Prop:=∀(R:Type) (call:aZ) (L nf n:Nat) (thaw:List Nat) (live m:List Bool) (s:List A) (h:H) (k:KE R),aT env call L nf thaw live (lp i) m (n+1) s h k=cT env call L nf thaw live lp S s h (aBx env call L nf thaw live (lp i) m n k)
theorem sT{fn:Func}{i:Nat}(hd:aL (aP fn)=true)(hi:((bV (aP fn))[i]?).isSome=true:=by kernel_rfl):ST (lpOf fn) i (aY fn i):=fun _ _ _ _ _ _ _ _ _ _ _=>aGj hd hi
section
variable{R:Type}{call:aZ}{L nf n:Nat}{thaw:List Nat}{live m:List Bool}{s args:List A}{h:H}{k:KE R}
noncomputable def iM:SC:=aS Tryz.f4
noncomputable def ZT:Nat->Code:=lpOf Tryz.f4
theorem aAl:aL (aP Tryz.f4)=true:=kr
theorem j2:FN 4 Tryz.f4 [] ([]) ZT iM false [.tmp 2]:=fN 1 Tryz.func4 aAl
noncomputable def CO:SC:=aS Tryz.f5
noncomputable def TG:Nat->Code:=lpOf Tryz.f5
theorem U6:aL (aP Tryz.f5)=true:=kr
theorem TK:FN 5 Tryz.f5 [] ([]) TG CO false (Tryz.f5.results.toList):=fN 2 Tryz.func5 U6
noncomputable def r8:SC:=aS Tryz.f6
noncomputable def aD1:Nat->Code:=lpOf Tryz.f6
theorem aEu:aL (aP Tryz.f6)=true:=kr
theorem x6:FN 6 Tryz.f6 [] ([]) aD1 r8 false [.tmp 6]:=fN 1 Tryz.func6 aEu
noncomputable def mI:SC:=aS Tryz.f7
noncomputable def jC:Nat->Code:=lpOf Tryz.f7
theorem vE:aL (aP Tryz.f7)=true:=kr
theorem oX:FN 7 Tryz.f7 [] Bz2 jC mI true [.tmp 4,.tmp 5]:=fN 3 Tryz.func7 vE
noncomputable def r9:SC:=aY Tryz.f7 0
theorem tW:ST jC 0 r9:=sT vE
noncomputable def sQ:SC:=aY Tryz.f7 1
theorem tP:ST jC 1 sQ:=sT vE
noncomputable def zY:SC:=aY Tryz.f7 2
theorem EQ:ST jC 2 zY:=sT vE
noncomputable def r7:SC:=aS Tryz.f8
noncomputable def aEa:Nat->Code:=lpOf Tryz.f8
theorem aDO:aL (aP Tryz.f8)=true:=kr
theorem yB:FN 8 Tryz.f8 [] ([]) aEa r7 false [.tmp 6]:=fN 1 Tryz.func8 aDO
noncomputable def oR:SC:=aS Tryz.f10
noncomputable def QM:Nat->Code:=lpOf Tryz.f10
theorem QC:aL (aP Tryz.f10)=true:=kr
theorem wT:FN 10 Tryz.f10 [] ([]) QM oR false (Tryz.f10.results.toList):=fN 2 Tryz.func10 QC
noncomputable def yE:SC:=aS Tryz.f11
noncomputable def aBS:Nat->Code:=lpOf Tryz.f11
theorem aB3:aL (aP Tryz.f11)=true:=kr
theorem HW:FN 11 Tryz.f11 [] ([]) aBS yE false [.tmp 4]:=fN 1 Tryz.func11 aB3
noncomputable def eU:SC:=aS Tryz.f12
noncomputable def Q4:Nat->Code:=lpOf Tryz.f12
theorem QX:aL (aP Tryz.f12)=true:=kr
theorem gC:FN 12 Tryz.f12 [] ([]) Q4 eU false (Tryz.f12.results.toList):=fN 2 Tryz.func12 QX
noncomputable def lU:SC:=aS Tryz.f13
noncomputable def wH:Nat->Code:=lpOf Tryz.f13
theorem HP:aL (aP Tryz.f13)=true:=kr
theorem nV:FN 13 Tryz.f13 [] Bz34 wH lU false [.tmp 6,.tmp 7]:=fN 1 Tryz.func13 HP
noncomputable def mN:SC:=aY Tryz.f13 0
theorem pF:ST wH 0 mN:=sT HP
noncomputable def sX:SC:=aS Tryz.f14
noncomputable def aD6:Nat->Code:=lpOf Tryz.f14
theorem aDw:aL (aP Tryz.f14)=true:=kr
theorem yD:FN 14 Tryz.f14 [] ([]) aD6 sX false [.tmp 4]:=fN 1 Tryz.func14 aDw
noncomputable def eO:SC:=aS Tryz.f15
noncomputable def i8:Nat->Code:=lpOf Tryz.f15
theorem rY:aL (aP Tryz.f15)=true:=kr
theorem fP:FN 15 Tryz.f15 [] Bz10 i8 eO false [.tmp 2]:=fN 1 Tryz.func15 rY
noncomputable def iF:SC:=aY Tryz.f15 0
theorem iZ:ST i8 0 iF:=sT rY
noncomputable def hZ:SC:=aY Tryz.f15 1
theorem iX:ST i8 1 hZ:=sT rY
noncomputable def VR:SC:=aS Tryz.f16
noncomputable def jL:Nat->Code:=lpOf Tryz.f16
theorem uU:aL (aP Tryz.f16)=true:=kr
theorem aIg:FN 16 Tryz.f16 (W8 (W4 [2002])) Bz6 jL VR false [.tmp 4]:=fN 2 Tryz.func16 uU
noncomputable def z6:SC:=aY Tryz.f16 0
theorem FX:ST jL 0 z6:=sT uU
noncomputable def BV:SC:=aY Tryz.f16 1
theorem FT:ST jL 1 BV:=sT uU
noncomputable def BQ:SC:=aY Tryz.f16 2
theorem FB:ST jL 2 BQ:=sT uU
noncomputable def CC:SC:=aS Tryz.f17
noncomputable def gZ:Nat->Code:=lpOf Tryz.f17
theorem qK:aL (aP Tryz.f17)=true:=kr
theorem S2:FN 17 Tryz.f17 [] Bz18 gZ CC true [.tmp 2]:=fN 3 Tryz.func17 qK
noncomputable def oP:SC:=aY Tryz.f17 0
theorem s6:ST gZ 0 oP:=sT qK
noncomputable def gB:SC:=aY Tryz.f17 1
theorem gR:ST gZ 1 gB:=sT qK
noncomputable def R8:SC:=aS Tryz.f18
noncomputable def zV:Nat->Code:=lpOf Tryz.f18
theorem N2:aL (aP Tryz.f18)=true:=kr
theorem aGT:FN 18 Tryz.f18 [0,0,0,2] Bz55 zV R8 true [.tmp 2]:=fN 3 Tryz.func18 N2
noncomputable def qL:SC:=aY Tryz.f18 0
theorem rW:ST zV 0 qL:=sT N2
theorem B1{L n:Nat}{args:List A}{h:H}:aA env L (n+1) 19 args h=CZ 43 21 args h:=by
 have:env.prim 19=some (CZ 43 21):=kr;simp only[aA,this]
noncomputable def iQ:SC:=aS Tryz.f20
noncomputable def p8:Nat->Code:=lpOf Tryz.f20
theorem pT:aL (aP Tryz.f20)=true:=kr
theorem pQ:FN 20 Tryz.f20 [] ([]) p8 iQ true [.tmp 2]:=fN 0 Tryz.func20 pT
noncomputable def ZF:SC:=aS Tryz.f21
noncomputable def aKk:Nat->Code:=lpOf Tryz.f21
theorem aKo:aL (aP Tryz.f21)=true:=kr
noncomputable def mJ:SC:=aS Tryz.f22
noncomputable def jG:Nat->Code:=lpOf Tryz.f22
theorem vB:aL (aP Tryz.f22)=true:=kr
theorem oF:FN 22 Tryz.f22 [] Bz13 jG mJ false [.tmp 4,.tmp 5]:=fN 2 Tryz.func22 vB
noncomputable def sS:SC:=aY Tryz.f22 0
theorem uH:ST jG 0 sS:=sT vB
noncomputable def sK:SC:=aY Tryz.f22 1
theorem t6:ST jG 1 sK:=sT vB
noncomputable def sG:SC:=aY Tryz.f22 2
theorem s7:ST jG 2 sG:=sT vB
noncomputable def lV:SC:=aS Tryz.f23
noncomputable def wF:Nat->Code:=lpOf Tryz.f23
theorem HJ:aL (aP Tryz.f23)=true:=kr
theorem nY:FN 23 Tryz.f23 [] Bz35 wF lV false [.tmp 6,.tmp 7]:=fN 1 Tryz.func23 HJ
noncomputable def mL:SC:=aY Tryz.f23 0
theorem o8:ST wF 0 mL:=sT HJ
noncomputable def PA:SC:=aS Tryz.f24
noncomputable def aQG:Nat->Code:=lpOf Tryz.f24
theorem aPT:aL (aP Tryz.f24)=true:=kr
theorem UM:FN 24 Tryz.f24 [] ([]) aQG PA false [.tmp 4]:=fN 1 Tryz.func24 aPT
noncomputable def YH:SC:=aS Tryz.f25
noncomputable def rD:Nat->Code:=lpOf Tryz.f25
theorem GN:aL (aP Tryz.f25)=true:=kr
theorem aKj:FN 25 Tryz.f25 (W4 (W2 (W1 [2]))) Bz5 rD YH false (Tryz.f25.results.toList):=fN 2 Tryz.func25 GN
noncomputable def n5:SC:=aY Tryz.f25 0
theorem nZ:ST rD 0 n5:=sT GN
noncomputable def D2:SC:=aY Tryz.f25 1
theorem H1:ST rD 1 D2:=sT GN
noncomputable def JJ:SC:=aS Tryz.f26
noncomputable def aKs:Nat->Code:=lpOf Tryz.f26
theorem aKE:aL (aP Tryz.f26)=true:=kr
theorem VY:FN 26 Tryz.f26 [] ([]) aKs JJ false [.tmp 4,.tmp 5]:=fN 1 Tryz.func26 aKE
noncomputable def QA:SC:=aS Tryz.f27
noncomputable def aLD:Nat->Code:=lpOf Tryz.f27
theorem aLq:aL (aP Tryz.f27)=true:=kr
theorem Z0:FN 27 Tryz.f27 [] ([]) aLD QA true [.tmp 2]:=fN 2 Tryz.func27 aLq
noncomputable def jP:SC:=aS Tryz.f28
noncomputable def aNq:Nat->Code:=lpOf Tryz.f28
theorem aLK:aL (aP Tryz.f28)=true:=kr
theorem jY:FN 28 Tryz.f28 [] ([]) aNq jP false (Tryz.f28.results.toList):=fN 0 Tryz.func28 aLK
noncomputable def eS:SC:=aS Tryz.f29
noncomputable def aKx:Nat->Code:=lpOf Tryz.f29
theorem aKz:aL (aP Tryz.f29)=true:=kr
theorem eT:FN 29 Tryz.f29 (W32 (W32 (W16 (W8 (W4 (W1 [1002])))))) ([]) aKx eS false (Tryz.f29.results.toList):=fN 0 Tryz.func29 aKz
noncomputable def pG:SC:=aS Tryz.f30
noncomputable def aGJ:Nat->Code:=lpOf Tryz.f30
theorem aGz:aL (aP Tryz.f30)=true:=kr
theorem sE:FN 30 Tryz.f30 [] ([]) aGJ pG false [.tmp 4]:=fN 0 Tryz.func30 aGz
noncomputable def VI:SC:=aS Tryz.f31
noncomputable def aOv:Nat->Code:=lpOf Tryz.f31
theorem aOm:aL (aP Tryz.f31)=true:=kr
theorem aCz:FN 31 Tryz.f31 [] ([]) aOv VI false (Tryz.f31.results.toList):=fN 0 Tryz.func31 aOm
noncomputable def oD:SC:=aS Tryz.f32
noncomputable def QH:Nat->Code:=lpOf Tryz.f32
theorem PZ:aL (aP Tryz.f32)=true:=kr
theorem xH:FN 32 Tryz.f32 [] ([]) QH oD false (Tryz.f32.results.toList):=fN 2 Tryz.func32 PZ
noncomputable def aA6:SC:=aS Tryz.f33
noncomputable def aKN:Nat->Code:=lpOf Tryz.f33
theorem aKT:aL (aP Tryz.f33)=true:=kr
theorem aKP:FN 33 Tryz.f33 [] ([]) aKN aA6 false [.tmp 2]:=fN 0 Tryz.func33 aKT
noncomputable def NJ:SC:=aS Tryz.f34
noncomputable def aEq:Nat->Code:=lpOf Tryz.f34
theorem aDB:aL (aP Tryz.f34)=true:=kr
theorem aEg:FN 34 Tryz.f34 [] ([]) aEq NJ false [.tmp 4]:=fN 1 Tryz.func34 aDB
noncomputable def QT:SC:=aS Tryz.f35
noncomputable def aFn:Nat->Code:=lpOf Tryz.f35
theorem aFi:aL (aP Tryz.f35)=true:=kr
theorem aFv:FN 35 Tryz.f35 [] ([]) aFn QT false [.tmp 2]:=fN 1 Tryz.func35 aFi
noncomputable def V6:SC:=aS Tryz.f36
noncomputable def u4:Nat->Code:=lpOf Tryz.f36
theorem RT:aL (aP Tryz.f36)=true:=kr
theorem aHL:FN 36 Tryz.f36 [0,0,0,2] Bz30 u4 V6 false [.tmp 2]:=fN 2 Tryz.func36 RT
noncomputable def r5:SC:=aY Tryz.f36 0
theorem tF:ST u4 0 r5:=sT RT
noncomputable def SR:SC:=aS Tryz.f37
noncomputable def aG1:Nat->Code:=lpOf Tryz.f37
theorem aFb:aL (aP Tryz.f37)=true:=kr
theorem aEQ:FN 37 Tryz.f37 [] ([]) aG1 SR false [.tmp 2]:=fN 1 Tryz.func37 aFb
noncomputable def iC:SC:=aS Tryz.f38
noncomputable def aEH:Nat->Code:=lpOf Tryz.f38
theorem aDA:aL (aP Tryz.f38)=true:=kr
theorem jN:FN 38 Tryz.f38 [] ([]) aEH iC false [.tmp 6,.tmp 7]:=fN 1 Tryz.func38 aDA
noncomputable def mD:SC:=aS Tryz.f39
noncomputable def x8:Nat->Code:=lpOf Tryz.f39
theorem yC:aL (aP Tryz.f39)=true:=kr
theorem yP:FN 39 Tryz.f39 [] ([]) x8 mD false [.tmp 4]:=fN 1 Tryz.func39 yC
noncomputable def CW:SC:=aS Tryz.f40
noncomputable def aFT:Nat->Code:=lpOf Tryz.f40
theorem aFO:aL (aP Tryz.f40)=true:=kr
theorem N9:FN 40 Tryz.f40 [] ([]) aFT CW false [.tmp 4,.tmp 5]:=fN 1 Tryz.func40 aFO
theorem wD{L n:Nat}{args:List A}{h:H}:aA env L (n+1) 41 args h=MK 21 args h:=by
 have:env.prim 41=some (MK 21):=kr;simp only[aA,this]
noncomputable def JR:SC:=aS Tryz.f44
noncomputable def qZ:Nat->Code:=lpOf Tryz.f44
theorem WF:aL (aP Tryz.f44)=true:=kr
noncomputable def vH:SC:=aY Tryz.f44 0
noncomputable def nO:SC:=aS Tryz.f45
noncomputable def YB:Nat->Code:=lpOf Tryz.f45
theorem aAp:aL (aP Tryz.f45)=true:=kr
noncomputable def kT:SC:=aS Tryz.f46
noncomputable def RU:Nat->Code:=lpOf Tryz.f46
theorem SI:aL (aP Tryz.f46)=true:=kr
noncomputable def eQ:SC:=aS Tryz.f47
noncomputable def rS:Nat->Code:=lpOf Tryz.f47
theorem CH:aL (aP Tryz.f47)=true:=kr
theorem fQ:FN 47 Tryz.f47 [] Bz61 rS eQ false [.tmp 2]:=fN 1 Tryz.func47 CH
noncomputable def kQ:SC:=aY Tryz.f47 0
theorem mF:ST rS 0 kQ:=sT CH
noncomputable def DQ:SC:=aS Tryz.f48
noncomputable def zQ:Nat->Code:=lpOf Tryz.f48
theorem ON:aL (aP Tryz.f48)=true:=kr
theorem ND:FN 48 Tryz.f48 [] Bz66 zQ DQ false [.tmp 2]:=fN 2 Tryz.func48 ON
noncomputable def yA:SC:=aY Tryz.f48 0
theorem CL:ST zQ 0 yA:=sT ON
noncomputable def rX:SC:=aS Tryz.f49
noncomputable def gS:Nat->Code:=lpOf Tryz.f49
theorem pP:aL (aP Tryz.f49)=true:=kr
theorem BH:FN 49 Tryz.f49 [] Bz42 gS rX false [.tmp 2]:=fN 2 Tryz.func49 pP
noncomputable def oQ:SC:=aY Tryz.f49 0
theorem t7:ST gS 0 oQ:=sT pP
noncomputable def gE:SC:=aY Tryz.f49 1
theorem hM:ST gS 1 gE:=sT pP
noncomputable def WM:SC:=aS Tryz.f50
noncomputable def lJ:Nat->Code:=lpOf Tryz.f50
theorem DT:aL (aP Tryz.f50)=true:=kr
theorem aH0:FN 50 Tryz.f50 [] Bz14 lJ WM false [.tmp 4]:=fN 2 Tryz.func50 DT
noncomputable def sJ:SC:=aY Tryz.f50 0
theorem tR:ST lJ 0 sJ:=sT DT
noncomputable def BJ:SC:=aY Tryz.f50 1
theorem FA:ST lJ 1 BJ:=sT DT
noncomputable def IE:SC:=aS Tryz.f51
noncomputable def PW:Nat->Code:=lpOf Tryz.f51
theorem aC0:aL (aP Tryz.f51)=true:=kr
theorem QJ:FN 51 Tryz.f51 [] Bz62 PW IE false [.tmp 4]:=fN 0 Tryz.func51 aC0
noncomputable def LZ:SC:=aY Tryz.f51 0
theorem NP:ST PW 0 LZ:=sT aC0
noncomputable def O8:SC:=aS Tryz.f52
noncomputable def aEo:Nat->Code:=lpOf Tryz.f52
theorem aDI:aL (aP Tryz.f52)=true:=kr
theorem aDM:FN 52 Tryz.f52 [] ([]) aEo O8 false [.tmp 4]:=fN 1 Tryz.func52 aDI
noncomputable def W3:SC:=aS Tryz.f53
noncomputable def eY:Nat->Code:=lpOf Tryz.f53
theorem o7:aL (aP Tryz.f53)=true:=kr
theorem aH7:FN 53 Tryz.f53 [] Bz0 eY W3 false [.tmp 2]:=fN 2 Tryz.func53 o7
noncomputable def sO:SC:=aY Tryz.f53 0
theorem uC:ST eY 0 sO:=sT o7
noncomputable def AS:SC:=aY Tryz.f53 1
theorem EZ:ST eY 1 AS:=sT o7
noncomputable def sI:SC:=aY Tryz.f53 2
theorem tG:ST eY 2 sI:=sT o7
noncomputable def zU:SC:=aY Tryz.f53 3
theorem EV:ST eY 3 zU:=sT o7
noncomputable def aNu:SC:=aS Tryz.f54
noncomputable def Y5:Nat->Code:=lpOf Tryz.f54
theorem aJA:aL (aP Tryz.f54)=true:=kr
theorem aSX:FN 54 Tryz.f54 [] Bz26 Y5 aNu false (Tryz.f54.results.toList):=fN 2 Tryz.func54 aJA
noncomputable def IB:SC:=aY Tryz.f54 0
theorem G7:ST Y5 0 IB:=sT aJA
noncomputable def OX:SC:=aS Tryz.f55
noncomputable def aD2:Nat->Code:=lpOf Tryz.f55
theorem aDr:aL (aP Tryz.f55)=true:=kr
theorem aEc:FN 55 Tryz.f55 [] ([]) aD2 OX false [.tmp 10,.tmp 11]:=fN 1 Tryz.func55 aDr
noncomputable def OL:SC:=aS Tryz.f56
noncomputable def aEm:Nat->Code:=lpOf Tryz.f56
theorem aEB:aL (aP Tryz.f56)=true:=kr
theorem aEI:FN 56 Tryz.f56 [] ([]) aEm OL false [.tmp 4]:=fN 0 Tryz.func56 aEB
noncomputable def c9:SC:=aS Tryz.f57
noncomputable def AD:Nat->Code:=lpOf Tryz.f57
theorem Y0:aL (aP Tryz.f57)=true:=kr
theorem cV:FN 57 Tryz.f57 (W32 (W32 (W16 (W2 (W1 [1002,0,0,0,0,0,0,0,0,0,0,0,0,0,0,0,0,0,0,0,0,0,1002]))))) Bz22 AD c9 false (Tryz.f57.results.toList):=fN 0 Tryz.func57 Y0
noncomputable def xU:SC:=aY Tryz.f57 0
theorem yF:ST AD 0 xU:=sT Y0
noncomputable def aI8:SC:=aS Tryz.f58
noncomputable def IF:Nat->Code:=lpOf Tryz.f58
theorem aEX:aL (aP Tryz.f58)=true:=kr
theorem aPU:FN 58 Tryz.f58 [] Bz25 IF aI8 false (Tryz.f58.results.toList):=fN 0 Tryz.func58 aEX
noncomputable def EG:SC:=aY Tryz.f58 0
theorem DE:ST IF 0 EG:=sT aEX
noncomputable def ZD:SC:=aS Tryz.f59
noncomputable def kA:Nat->Code:=lpOf Tryz.f59
theorem GB:aL (aP Tryz.f59)=true:=kr
theorem aKC:FN 59 Tryz.f59 (W32 (W4 (W1 [1002]))) Bz7 kA ZD true (Tryz.f59.results.toList):=fN 0 Tryz.func59 GB
noncomputable def uO:SC:=aY Tryz.f59 0
theorem wA:ST kA 0 uO:=sT GB
noncomputable def oG:SC:=aY Tryz.f59 1
theorem nP:ST kA 1 oG:=sT GB
noncomputable def TX:SC:=aS Tryz.f60
noncomputable def rH:Nat->Code:=lpOf Tryz.f60
theorem aCh:aL (aP Tryz.f60)=true:=kr
theorem aC4:FN 60 Tryz.f60 (W16 (W8 (W4 [1002]))) Bz16 rH TX true (Tryz.f60.results.toList):=fN 2 Tryz.func60 aCh
noncomputable def tB:SC:=aY Tryz.f60 0
theorem sY:ST rH 0 tB:=sT aCh
noncomputable def YI:SC:=aS Tryz.f62
noncomputable def aKU:Nat->Code:=lpOf Tryz.f62
theorem aKA:aL (aP Tryz.f62)=true:=kr
theorem aKt:FN 62 Tryz.f62 [] ([]) aKU YI false [.tmp 4]:=fN 0 Tryz.func62 aKA
noncomputable def UQ:SC:=aS Tryz.f64
noncomputable def aNR:Nat->Code:=lpOf Tryz.f64
theorem aN5:aL (aP Tryz.f64)=true:=kr
theorem aDg:FN 64 Tryz.f64 [] ([]) aNR UQ false (Tryz.f64.results.toList):=fN 0 Tryz.func64 aN5
noncomputable def VU:SC:=aS Tryz.f65
noncomputable def aHA:Nat->Code:=lpOf Tryz.f65
theorem aHj:aL (aP Tryz.f65)=true:=kr
theorem aHJ:FN 65 Tryz.f65 [] ([]) aHA VU false [.tmp 4]:=fN 0 Tryz.func65 aHj
noncomputable def WJ:SC:=aS Tryz.f66
noncomputable def pE:Nat->Code:=lpOf Tryz.f66
theorem D3:aL (aP Tryz.f66)=true:=kr
theorem aHl:FN 66 Tryz.f66 [] Bz33 pE WJ false (Tryz.f66.results.toList):=fN 2 Tryz.func66 D3
noncomputable def sC:SC:=aY Tryz.f66 0
theorem tH:ST pE 0 sC:=sT D3
noncomputable def BP:SC:=aY Tryz.f66 1
theorem E1:ST pE 1 BP:=sT D3
noncomputable def vI:SC:=aS Tryz.f67
noncomputable def A6:Nat->Code:=lpOf Tryz.f67
theorem M6:aL (aP Tryz.f67)=true:=kr
theorem A4:FN 67 Tryz.f67 [] Bz37 A6 vI false [.tmp 4]:=fN 1 Tryz.func67 M6
noncomputable def x4:SC:=aY Tryz.f67 0
theorem B9:ST A6 0 x4:=sT M6
noncomputable def aO9:SC:=aS Tryz.f68
noncomputable def aUZ:Nat->Code:=lpOf Tryz.f68
theorem aTt:aL (aP Tryz.f68)=true:=kr
theorem aT7:FN 68 Tryz.f68 [] ([]) aUZ aO9 false [.tmp 4]:=fN 1 Tryz.func68 aTt
noncomputable def EL:SC:=aS Tryz.f69
noncomputable def XT:Nat->Code:=lpOf Tryz.f69
theorem XM:aL (aP Tryz.f69)=true:=kr
theorem XI:FN 69 Tryz.f69 [] ([]) XT EL false [.tmp 4]:=fN 0 Tryz.func69 XM
noncomputable def jM:SC:=aS Tryz.f70
noncomputable def iT:Nat->Code:=lpOf Tryz.f70
theorem nM:aL (aP Tryz.f70)=true:=kr
theorem nL:FN 70 Tryz.f70 [] Bz58 iT jM false [.tmp 4]:=fN 1 Tryz.func70 nM
noncomputable def eF:SC:=aY Tryz.f70 0
theorem fT:ST iT 0 eF:=sT nM
noncomputable def VX:SC:=aS Tryz.f71
noncomputable def aHU:Nat->Code:=lpOf Tryz.f71
theorem aH3:aL (aP Tryz.f71)=true:=kr
theorem aHK:FN 71 Tryz.f71 [] ([]) aHU VX false [.tmp 4,.tmp 5]:=fN 1 Tryz.func71 aH3
noncomputable def v8:SC:=aS Tryz.f72
noncomputable def YT:Nat->Code:=lpOf Tryz.f72
theorem aAa:aL (aP Tryz.f72)=true:=kr
theorem FD:FN 72 Tryz.f72 [] ([]) YT v8 false [.tmp 3]:=fN 0 Tryz.func72 aAa
noncomputable def PI:SC:=aS Tryz.f76
noncomputable def aEv:Nat->Code:=lpOf Tryz.f76
theorem aEf:aL (aP Tryz.f76)=true:=kr
noncomputable def EK:SC:=aS Tryz.f77
noncomputable def XQ:Nat->Code:=lpOf Tryz.f77
theorem XH:aL (aP Tryz.f77)=true:=kr
noncomputable def R0:SC:=aS Tryz.f78
noncomputable def aGw:Nat->Code:=lpOf Tryz.f78
theorem aGL:aL (aP Tryz.f78)=true:=kr
theorem aFz:FN 78 Tryz.f78 [] ([]) aGw R0 false [.tmp 2]:=fN 1 Tryz.func78 aGL
noncomputable def M4:SC:=aS Tryz.f79
noncomputable def S9:Nat->Code:=lpOf Tryz.f79
theorem aGK:aL (aP Tryz.f79)=true:=kr
theorem VA:FN 79 Tryz.f79 [] Bz39 S9 M4 false [.tmp 6]:=fN 1 Tryz.func79 aGK
noncomputable def xJ:SC:=aY Tryz.f79 0
theorem u3:ST S9 0 xJ:=sT aGK
noncomputable def VQ:SC:=aS Tryz.f80
noncomputable def C5:Nat->Code:=lpOf Tryz.f80
theorem Q5:aL (aP Tryz.f80)=true:=kr
theorem aHR:FN 80 Tryz.f80 [] Bz59 C5 VQ false [.tmp 2]:=fN 2 Tryz.func80 Q5
noncomputable def sF:SC:=aY Tryz.f80 0
theorem tV:ST C5 0 sF:=sT Q5
noncomputable def aG7:SC:=aS Tryz.f81
noncomputable def xE:Nat->Code:=lpOf Tryz.f81
theorem P3:aL (aP Tryz.f81)=true:=kr
theorem aOq:FN 81 Tryz.f81 [] Bz23 xE aG7 false (Tryz.f81.results.toList):=fN 2 Tryz.func81 P3
noncomputable def AG:SC:=aY Tryz.f81 0
theorem AN:ST xE 0 AG:=sT P3
noncomputable def K5:SC:=aY Tryz.f81 1
theorem N3:ST xE 1 K5:=sT P3
noncomputable def uM:SC:=aS Tryz.f82
noncomputable def aFl:Nat->Code:=lpOf Tryz.f82
theorem aEW:aL (aP Tryz.f82)=true:=kr
theorem zW:FN 82 Tryz.f82 [] ([]) aFl uM false [.tmp 4,.tmp 5]:=fN 1 Tryz.func82 aEW
noncomputable def mY:SC:=aS Tryz.f83
noncomputable def aEy:Nat->Code:=lpOf Tryz.f83
theorem aDQ:aL (aP Tryz.f83)=true:=kr
theorem pZ:FN 83 Tryz.f83 [] ([]) aEy mY false [.tmp 6,.tmp 7]:=fN 1 Tryz.func83 aDQ
noncomputable def aAo:SC:=aS Tryz.f84
noncomputable def UD:Nat->Code:=lpOf Tryz.f84
theorem aEU:aL (aP Tryz.f84)=true:=kr
theorem aFI:FN 84 Tryz.f84 [] Bz38 UD aAo false [.tmp 4]:=fN 1 Tryz.func84 aEU
noncomputable def D9:SC:=aY Tryz.f84 0
theorem DB:ST UD 0 D9:=sT aEU
noncomputable def aF8:SC:=aS Tryz.f85
noncomputable def aN8:Nat->Code:=lpOf Tryz.f85
theorem aOf:aL (aP Tryz.f85)=true:=kr
theorem aOA:FN 85 Tryz.f85 [] ([]) aN8 aF8 false [.tmp 2]:=fN 1 Tryz.func85 aOf
noncomputable def aAn:SC:=aS Tryz.f86
noncomputable def G9:Nat->Code:=lpOf Tryz.f86
theorem WC:aL (aP Tryz.f86)=true:=kr
theorem aKJ:FN 86 Tryz.f86 [] Bz63 G9 aAn false [.tmp 4]:=fN 1 Tryz.func86 WC
noncomputable def oU:SC:=aY Tryz.f86 0
theorem nW:ST G9 0 oU:=sT WC
noncomputable def Q6:SC:=aS Tryz.f87
noncomputable def aGF:Nat->Code:=lpOf Tryz.f87
theorem aFr:aL (aP Tryz.f87)=true:=kr
theorem aFC:FN 87 Tryz.f87 [] ([]) aGF Q6 false [.tmp 4]:=fN 1 Tryz.func87 aFr
noncomputable def RE:SC:=aS Tryz.f88
noncomputable def aFR:Nat->Code:=lpOf Tryz.f88
theorem aGO:aL (aP Tryz.f88)=true:=kr
theorem aFh:FN 88 Tryz.f88 [] ([]) aFR RE false [.tmp 2]:=fN 1 Tryz.func88 aGO
noncomputable def aC1:SC:=aS Tryz.f89
noncomputable def lM:Nat->Code:=lpOf Tryz.f89
theorem AY:aL (aP Tryz.f89)=true:=kr
theorem aLj:FN 89 Tryz.f89 [] Bz4 lM aC1 false [.tmp 2]:=fN 2 Tryz.func89 AY
noncomputable def GC:SC:=aY Tryz.f89 0
theorem KB:ST lM 0 GC:=sT AY
noncomputable def GS:SC:=aY Tryz.f89 1
theorem JP:ST lM 1 GS:=sT AY
noncomputable def GR:SC:=aY Tryz.f89 2
theorem JT:ST lM 2 GR:=sT AY
noncomputable def LH:SC:=aS Tryz.f90
noncomputable def iO:Nat->Code:=lpOf Tryz.f90
theorem vY:aL (aP Tryz.f90)=true:=kr
theorem aB0:FN 90 Tryz.f90 (W8 (W4 (W1 [2,0,2]))) Bz9 iO LH false [.tmp 8,.tmp 9,.tmp 10]:=fN 2 Tryz.func90 vY
noncomputable def tQ:SC:=aY Tryz.f90 0
theorem yV:ST iO 0 tQ:=sT vY
noncomputable def mO:SC:=aY Tryz.f90 1
theorem o6:ST iO 1 mO:=sT vY
noncomputable def aDe:SC:=aS Tryz.f91
noncomputable def aL0:Nat->Code:=lpOf Tryz.f91
theorem aMg:aL (aP Tryz.f91)=true:=kr
theorem aLM:FN 91 Tryz.f91 [] ([]) aL0 aDe false [.tmp 5]:=fN 0 Tryz.func91 aMg
noncomputable def FR:SC:=aS Tryz.f92
noncomputable def XL:Nat->Code:=lpOf Tryz.f92
theorem XP:aL (aP Tryz.f92)=true:=kr
theorem XE:FN 92 Tryz.f92 [] ([]) XL FR false [.tmp 9]:=fN 0 Tryz.func92 XP
noncomputable def xQ:SC:=aS Tryz.f93
noncomputable def jE:Nat->Code:=lpOf Tryz.f93
theorem uT:aL (aP Tryz.f93)=true:=kr
theorem CT:FN 93 Tryz.f93 (W16 (W2 [2])) Bz3 jE xQ false [.tmp 10,.tmp 11]:=fN 1 Tryz.func93 uT
noncomputable def mK:SC:=aY Tryz.f93 0
theorem mZ:ST jE 0 mK:=sT uT
noncomputable def sZ:SC:=aY Tryz.f93 1
theorem tU:ST jE 1 sZ:=sT uT
noncomputable def BD:SC:=aY Tryz.f93 2
theorem F9:ST jE 2 BD:=sT uT
noncomputable def FH:SC:=aS Tryz.f94
noncomputable def XN:Nat->Code:=lpOf Tryz.f94
theorem W9:aL (aP Tryz.f94)=true:=kr
theorem XF:FN 94 Tryz.f94 [] ([]) XN FH false [.tmp 6]:=fN 0 Tryz.func94 W9
noncomputable def aFS:SC:=aS Tryz.f99
noncomputable def rO:Nat->Code:=lpOf Tryz.f99
theorem QD:aL (aP Tryz.f99)=true:=kr
theorem aOd:FN 99 Tryz.f99 [] Bz12 rO aFS false (Tryz.f99.results.toList):=fN 0 Tryz.func99 QD
noncomputable def LJ:SC:=aY Tryz.f99 0
theorem OJ:ST rO 0 LJ:=sT QD
noncomputable def ME:SC:=aY Tryz.f99 1
theorem PG:ST rO 1 ME:=sT QD
noncomputable def V5:SC:=aS Tryz.f100
noncomputable def pC:Nat->Code:=lpOf Tryz.f100
theorem D4:aL (aP Tryz.f100)=true:=kr
theorem aHz:FN 100 Tryz.f100 [] Bz29 pC V5 false [.tmp 2,.tmp 3]:=fN 2 Tryz.func100 D4
noncomputable def sA:SC:=aY Tryz.f100 0
theorem tM:ST pC 0 sA:=sT D4
noncomputable def AT:SC:=aY Tryz.f100 1
theorem E5:ST pC 1 AT:=sT D4
noncomputable def aC6:SC:=aS Tryz.f101
noncomputable def MC:Nat->Code:=lpOf Tryz.f101
theorem aAE:aL (aP Tryz.f101)=true:=kr
theorem aM1:FN 101 Tryz.f101 [] Bz69 MC aC6 false [.tmp 4]:=fN 1 Tryz.func101 aAE
noncomputable def GG:SC:=aY Tryz.f101 0
theorem LR:ST MC 0 GG:=sT aAE
noncomputable def oH:SC:=aS Tryz.f102
noncomputable def AO:Nat->Code:=lpOf Tryz.f102
theorem O6:aL (aP Tryz.f102)=true:=kr
theorem sU:FN 102 Tryz.f102 [] Bz52 AO oH false [.tmp 4]:=fN 1 Tryz.func102 O6
noncomputable def pS:SC:=aY Tryz.f102 0
theorem rV:ST AO 0 pS:=sT O6
noncomputable def Z5:SC:=aS Tryz.f103
noncomputable def aKv:Nat->Code:=lpOf Tryz.f103
theorem aKR:aL (aP Tryz.f103)=true:=kr
theorem aKH:FN 103 Tryz.f103 [] ([]) aKv Z5 false [.tmp 4]:=fN 1 Tryz.func103 aKR
noncomputable def JZ:SC:=aS Tryz.f104
noncomputable def aBJ:Nat->Code:=lpOf Tryz.f104
theorem aB5:aL (aP Tryz.f104)=true:=kr
theorem aBU:FN 104 Tryz.f104 [] ([]) aBJ JZ false [.tmp 7]:=fN 0 Tryz.func104 aB5
noncomputable def aJ4:SC:=aS Tryz.f115
noncomputable def aQy:Nat->Code:=lpOf Tryz.f115
theorem aQ1:aL (aP Tryz.f115)=true:=kr
theorem aQc:FN 115 Tryz.f115 [] ([]) aQy aJ4 false [.tmp 4]:=fN 1 Tryz.func115 aQ1
noncomputable def aCf:SC:=aS Tryz.f116
noncomputable def oO:Nat->Code:=lpOf Tryz.f116
theorem K3:aL (aP Tryz.f116)=true:=kr
theorem aL8:FN 116 Tryz.f116 [] Bz36 oO aCf false [.tmp 2]:=fN 2 Tryz.func116 K3
noncomputable def G6:SC:=aY Tryz.f116 0
theorem JL:ST oO 0 G6:=sT K3
noncomputable def xV:SC:=aY Tryz.f116 1
theorem x7:ST oO 1 xV:=sT K3
noncomputable def EA:SC:=aS Tryz.f117
noncomputable def aNd:Nat->Code:=lpOf Tryz.f117
theorem aMZ:aL (aP Tryz.f117)=true:=kr
theorem L5:FN 117 Tryz.f117 [] ([]) aNd EA false [.tmp 4]:=fN 1 Tryz.func117 aMZ
noncomputable def EE:SC:=aS Tryz.f118
noncomputable def eB:Nat->Code:=lpOf Tryz.f118
theorem uB:aL (aP Tryz.f118)=true:=kr
theorem LS:FN 118 Tryz.f118 [] Bz1 eB EE false [.tmp 2,.tmp 3]:=fN 1 Tryz.func118 uB
noncomputable def GO:SC:=aY Tryz.f118 0
theorem MA:ST eB 0 GO:=sT uB
noncomputable def xS:SC:=aY Tryz.f118 1
theorem yM:ST eB 1 xS:=sT uB
noncomputable def qX:SC:=aY Tryz.f118 2
theorem qO:ST eB 2 qX:=sT uB
noncomputable def qU:SC:=aY Tryz.f118 3
theorem qF:ST eB 3 qU:=sT uB
noncomputable def vD:SC:=aS Tryz.f119
noncomputable def aE8:Nat->Code:=lpOf Tryz.f119
theorem aGr:aL (aP Tryz.f119)=true:=kr
theorem BK:FN 119 Tryz.f119 [] ([]) aE8 vD false [.tmp 4]:=fN 1 Tryz.func119 aGr
noncomputable def R3:SC:=aS Tryz.f120
noncomputable def aFc:Nat->Code:=lpOf Tryz.f120
theorem aGf:aL (aP Tryz.f120)=true:=kr
theorem aF4:FN 120 Tryz.f120 [] ([]) aFc R3 false [.tmp 4]:=fN 1 Tryz.func120 aGf
noncomputable def aIW:SC:=aS Tryz.f121
noncomputable def TU:Nat->Code:=lpOf Tryz.f121
theorem aFB:aL (aP Tryz.f121)=true:=kr
theorem aQM:FN 121 Tryz.f121 [] Bz53 TU aIW false [.tmp 6]:=fN 1 Tryz.func121 aFB
noncomputable def QF:SC:=aY Tryz.f121 0
theorem SA:ST TU 0 QF:=sT aFB
noncomputable def vJ:SC:=aS Tryz.f122
noncomputable def JV:Nat->Code:=lpOf Tryz.f122
theorem MQ:aL (aP Tryz.f122)=true:=kr
theorem LU:FN 122 Tryz.f122 [] ([]) JV vJ false [.tmp 2]:=fN 1 Tryz.func122 MQ
noncomputable def qN:SC:=aS Tryz.f123
noncomputable def n4:Nat->Code:=lpOf Tryz.f123
theorem HN:aL (aP Tryz.f123)=true:=kr
theorem wE:FN 123 Tryz.f123 (W8 (W2 [2])) Bz11 n4 qN false [.tmp 9]:=fN 0 Tryz.func123 HN
noncomputable def cM:SC:=aY Tryz.f123 0
theorem cI:ST n4 0 cM:=sT HN
noncomputable def aAR:SC:=aS Tryz.f124
noncomputable def GL:Nat->Code:=lpOf Tryz.f124
theorem WN:aL (aP Tryz.f124)=true:=kr
theorem aKL:FN 124 Tryz.f124 [0,0,0,2] Bz47 GL aAR false [.tmp 2]:=fN 1 Tryz.func124 WN
noncomputable def CS:SC:=aY Tryz.f124 0
theorem HV:ST GL 0 CS:=sT WN
noncomputable def aAq:SC:=aS Tryz.f128
noncomputable def mG:Nat->Code:=lpOf Tryz.f128
theorem HA:aL (aP Tryz.f128)=true:=kr
theorem aKr:FN 128 Tryz.f128 [] Bz15 mG aAq false [.tmp 4,.tmp 5]:=fN 2 Tryz.func128 HA
noncomputable def uY:SC:=aY Tryz.f128 0
theorem vZ:ST mG 0 uY:=sT HA
noncomputable def oN:SC:=aY Tryz.f128 1
theorem nU:ST mG 1 oN:=sT HA
noncomputable def aDJ:SC:=aS Tryz.f134
noncomputable def YR:Nat->Code:=lpOf Tryz.f134
theorem aIn:aL (aP Tryz.f134)=true:=kr
theorem aIR:FN 134 Tryz.f134 [] Bz38 YR aDJ false [.tmp 4]:=fN 1 Tryz.func134 aIn
noncomputable def IS:SC:=aY Tryz.f134 0
theorem GK:ST YR 0 IS:=sT aIn
noncomputable def aCX:SC:=aS Tryz.f135
noncomputable def tT:Nat->Code:=lpOf Tryz.f135
theorem K7:aL (aP Tryz.f135)=true:=kr
theorem aM2:FN 135 Tryz.f135 [] Bz43 tT aCX false [.tmp 2]:=fN 2 Tryz.func135 K7
noncomputable def GX:SC:=aY Tryz.f135 0
theorem MJ:ST tT 0 GX:=sT K7
noncomputable def GF:SC:=aY Tryz.f135 1
theorem KK:ST tT 1 GF:=sT K7
noncomputable def aCg:SC:=aS Tryz.f136
noncomputable def tI:Nat->Code:=lpOf Tryz.f136
theorem K0:aL (aP Tryz.f136)=true:=kr
theorem aNE:FN 136 Tryz.f136 [] Bz19 tI aCg false [.tmp 6]:=fN 2 Tryz.func136 K0
noncomputable def GW:SC:=aY Tryz.f136 0
theorem MI:ST tI 0 GW:=sT K0
noncomputable def G3:SC:=aY Tryz.f136 1
theorem LG:ST tI 1 G3:=sT K0
noncomputable def nC:SC:=aS Tryz.f137
noncomputable def aLO:Nat->Code:=lpOf Tryz.f137
theorem aNs:aL (aP Tryz.f137)=true:=kr
theorem oL:FN 137 Tryz.f137 [] (Z2 (U1 (Z2 (Z1 (U2 (Z32 (Z16 (Z8 ([]))))))))) aLO nC false [.tmp 6]:=fN 1 Tryz.func137 aNs
noncomputable def aAt:SC:=aS Tryz.f138
noncomputable def GD:Nat->Code:=lpOf Tryz.f138
theorem VW:aL (aP Tryz.f138)=true:=kr
theorem aKF:FN 138 Tryz.f138 [] Bz56 GD aAt false [.tmp 4]:=fN 2 Tryz.func138 VW
noncomputable def DJ:SC:=aY Tryz.f138 0
theorem HS:ST GD 0 DJ:=sT VW
noncomputable def aGE:SC:=aS Tryz.f139
noncomputable def rL:Nat->Code:=lpOf Tryz.f139
theorem PY:aL (aP Tryz.f139)=true:=kr
theorem aOi:FN 139 Tryz.f139 [] Bz21 rL aGE false []:=fN 0 Tryz.func139 PY
noncomputable def zX:SC:=aY Tryz.f139 0
theorem BB:ST rL 0 zX:=sT PY
noncomputable def uI:SC:=aY Tryz.f139 1
theorem sW:ST rL 1 uI:=sT PY
noncomputable def XW:SC:=aS Tryz.f140
noncomputable def GQ:Nat->Code:=lpOf Tryz.f140
theorem WR:aL (aP Tryz.f140)=true:=kr
theorem aKq:FN 140 Tryz.f140 [] Bz64 GQ XW false [.tmp 4]:=fN 1 Tryz.func140 WR
noncomputable def DU:SC:=aY Tryz.f140 0
theorem HR:ST GQ 0 DU:=sT WR
noncomputable def aA8:SC:=aS Tryz.f141
noncomputable def qT:Nat->Code:=lpOf Tryz.f141
theorem GM:aL (aP Tryz.f141)=true:=kr
theorem aKi:FN 141 Tryz.f141 [] Bz24 qT aA8 false [.tmp 10]:=fN 2 Tryz.func141 GM
noncomputable def DL:SC:=aY Tryz.f141 0
theorem HK:ST qT 0 DL:=sT GM
noncomputable def oB:SC:=aY Tryz.f141 1
theorem nQ:ST qT 1 oB:=sT GM
noncomputable def xL:SC:=aS Tryz.f142
noncomputable def DD:Nat->Code:=lpOf Tryz.f142
theorem SG:aL (aP Tryz.f142)=true:=kr
theorem DX:FN 142 Tryz.f142 [] Bz65 DD xL false [.tmp 2]:=fN 1 Tryz.func142 SG
noncomputable def mX:SC:=aY Tryz.f142 0
theorem mU:ST DD 0 mX:=sT SG
noncomputable def RG:SC:=aS Tryz.f143
noncomputable def BG:Nat->Code:=lpOf Tryz.f143
theorem M9:aL (aP Tryz.f143)=true:=kr
theorem aE7:FN 143 Tryz.f143 [] (U1 (Z1 (U4 (Z16 ([]))))) BG RG false [.tmp 2,.tmp 3]:=fN 1 Tryz.func143 M9
noncomputable def yO:SC:=aY Tryz.f143 0
theorem CI:ST BG 0 yO:=sT M9
noncomputable def aDZ:SC:=aS Tryz.f144
noncomputable def aRT:Nat->Code:=lpOf Tryz.f144
theorem aTi:aL (aP Tryz.f144)=true:=kr
theorem aIr:FN 144 Tryz.f144 [] ([]) aRT aDZ false [.tmp 6]:=fN 1 Tryz.func144 aTi
noncomputable def aLh:SC:=aS Tryz.f145
noncomputable def aRh:Nat->Code:=lpOf Tryz.f145
theorem aSH:aL (aP Tryz.f145)=true:=kr
theorem aSy:FN 145 Tryz.f145 [] ([]) aRh aLh false [.tmp 4]:=fN 1 Tryz.func145 aSH
noncomputable def oE:SC:=aS Tryz.f146
noncomputable def B6:Nat->Code:=lpOf Tryz.f146
theorem B5:aL (aP Tryz.f146)=true:=kr
theorem B3:FN 146 Tryz.f146 [] ([]) B6 oE false [.tmp 4]:=fN 1 Tryz.func146 B5
noncomputable def rB:SC:=aS Tryz.f147
noncomputable def fG:Nat->Code:=lpOf Tryz.f147
theorem pN:aL (aP Tryz.f147)=true:=kr
theorem E8:FN 147 Tryz.f147 [] Bz48 fG rB false []:=fN 0 Tryz.func147 pN
noncomputable def eV:SC:=aY Tryz.f147 0
theorem gO:ST fG 0 eV:=sT pN
noncomputable def IH:SC:=aS Tryz.f148
noncomputable def P7:Nat->Code:=lpOf Tryz.f148
theorem aCJ:aL (aP Tryz.f148)=true:=kr
theorem QK:FN 148 Tryz.f148 [] Bz49 P7 IH false [.tmp 8]:=fN 1 Tryz.func148 aCJ
noncomputable def BM:SC:=aY Tryz.f148 0
theorem AE:ST P7 0 BM:=sT aCJ
noncomputable def aCK:SC:=aS Tryz.f150
noncomputable def lQ:Nat->Code:=lpOf Tryz.f150
theorem A7:aL (aP Tryz.f150)=true:=kr
theorem aMi:FN 150 Tryz.f150 [] Bz8 lQ aCK false [.tmp 8]:=fN 2 Tryz.func150 A7
noncomputable def G4:SC:=aY Tryz.f150 0
theorem KI:ST lQ 0 G4:=sT A7
noncomputable def GZ:SC:=aY Tryz.f150 1
theorem LW:ST lQ 1 GZ:=sT A7
noncomputable def GI:SC:=aY Tryz.f150 2
theorem JQ:ST lQ 2 GI:=sT A7
noncomputable def aMY:SC:=aS Tryz.f151
noncomputable def aSu:Nat->Code:=lpOf Tryz.f151
theorem aR5:aL (aP Tryz.f151)=true:=kr
theorem aRo:FN 151 Tryz.f151 [] ([]) aSu aMY false [.tmp 6]:=fN 1 Tryz.func151 aR5
noncomputable def UX:SC:=aS Tryz.f152
noncomputable def wS:Nat->Code:=lpOf Tryz.f152
theorem QI:aL (aP Tryz.f152)=true:=kr
theorem aCj:FN 152 Tryz.f152 [] Bz20 wS UX false [.tmp 6]:=fN 1 Tryz.func152 QI
noncomputable def BN:SC:=aY Tryz.f152 0
theorem A2:ST wS 0 BN:=sT QI
noncomputable def zZ:SC:=aY Tryz.f152 1
theorem AQ:ST wS 1 zZ:=sT QI
noncomputable def aJ7:SC:=aS Tryz.f153
noncomputable def aQ3:Nat->Code:=lpOf Tryz.f153
theorem aP4:aL (aP Tryz.f153)=true:=kr
theorem aQV:FN 153 Tryz.f153 [] ([]) aQ3 aJ7 false [.tmp 2]:=fN 1 Tryz.func153 aP4
noncomputable def aCs:SC:=aS Tryz.f154
noncomputable def JX:Nat->Code:=lpOf Tryz.f154
theorem Z3:aL (aP Tryz.f154)=true:=kr
theorem aNA:FN 154 Tryz.f154 [] Bz60 JX aCs false [.tmp 4]:=fN 1 Tryz.func154 Z3
noncomputable def xM:SC:=aY Tryz.f154 0
theorem yK:ST JX 0 xM:=sT Z3
noncomputable def iD:SC:=aS Tryz.f155
noncomputable def IC:Nat->Code:=lpOf Tryz.f155
theorem H2:aL (aP Tryz.f155)=true:=kr
theorem kR:FN 155 Tryz.f155 [] ([]) IC iD false [.tmp 2]:=fN 1 Tryz.func155 H2
noncomputable def WA:SC:=aS Tryz.f159
noncomputable def aHG:Nat->Code:=lpOf Tryz.f159
theorem aIa:aL (aP Tryz.f159)=true:=kr
theorem aHN:FN 159 Tryz.f159 [] (Z2 (U2 (Z4 (U4 (Z32 (Z32 (Z2 (Z1 ([]))))))))) aHG WA false [.tmp 8]:=fN 2 Tryz.func159 aIa
end
end Ev
end Go.Proofs.YtppffbehejpglaaGreatDoor
