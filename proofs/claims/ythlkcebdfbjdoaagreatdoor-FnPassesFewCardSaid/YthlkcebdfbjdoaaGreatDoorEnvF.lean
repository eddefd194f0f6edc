/-
  Each function's code as an equation. Written by a program.
-/
import Derived.Test.YthlkcebdfbjdoaaGreatDoorEnv
set_option linter.unusedSimpArgs false
set_option linter.unusedVariables false
set_option maxRecDepth 100000
namespace Go.Proofs.YthlkcebdfbjdoaaGreatDoor
namespace Ev
abbrev FN(f:Nat)(fn:Func)(th:List Nat)(lv:List Bool)(lp:Nat->Code)(S:SC)(e:Bool)(rs:List ResultVar):Prop:=∀(L n:Nat) (args:List A) (h:H),aA env L (n+1) f args h=cU env (aA env L n) L h.length th lv lp S (args++List.replicate (fn.ntmps-args.length) (.d .undef)) h (kFin env.P h.length e rs)
theorem fN (mode : Nat) {f : Nat} {fn : Func} {e : Bool} {th : List Nat} {lv : List Bool} {rs : List ResultVar} (hf : env.P.funcs[f]? = some fn) (hd : aL (aP fn) = true) (hp : (env.prim f).isNone = true := by kernel_rfl) (hb : fn.body.isSome = true := by kernel_rfl) (hn : (fn.name == "runtime.NumGoroutine") = false := by kernel_rfl) (hh : env.hint f = ⟨mode, e, th, lv⟩ := by kernel_rfl) (hr : fn.results.toList = rs := by kernel_rfl) : FN f fn th lv (lpOf fn) (aS fn) e rs := fun _ _ _ _ => L0 hp hf hb hn hd hh hr
abbrev ST(lp:Nat->Code)(i:Nat)(S:SC):Prop:=∀(R:Type) (call:a6) (L nf n:Nat) (thaw:List Nat) (live m:List Bool) (s:List A) (h:H) (k:KE R),aT env call L nf thaw live (lp i) m (n+1) s h k=cU env call L nf thaw live lp S s h (aBi env call L nf thaw live (lp i) m n k)
theorem sT{fn:Func}{i:Nat}(hd:aL (aP fn)=true)(hi:((bU (aP fn))[i]?).isSome=true:=by kernel_rfl):ST (lpOf fn) i (aY fn i):=fun _ _ _ _ _ _ _ _ _ _ _=>aEJ hd hi
section
variable{R:Type}{call:a6}{L nf n:Nat}{thaw:List Nat}{live m:List Bool}{s args:List A}{h:H}{k:KE R}
noncomputable def qV:SC:=aS Tryz.f4
noncomputable def aHn:Nat->Code:=lpOf Tryz.f4
theorem aHt:aL (aP Tryz.f4)=true:=kr
theorem uY:FN 4 Tryz.f4 [] ([]) aHn qV false [.tmp 2]:=fN 1 Tryz.func4 aHt
noncomputable def CE:SC:=aS Tryz.f8
noncomputable def UQ:Nat->Code:=lpOf Tryz.f8
theorem UZ:aL (aP Tryz.f8)=true:=kr
theorem TF:FN 8 Tryz.f8 [] ([]) UQ CE false (Tryz.f8.results.toList):=fN 2 Tryz.func8 UZ
noncomputable def r8:SC:=aS Tryz.f9
noncomputable def aEI:Nat->Code:=lpOf Tryz.f9
theorem aEn:aL (aP Tryz.f9)=true:=kr
theorem yB:FN 9 Tryz.f9 [] ([]) aEI r8 false [.tmp 6]:=fN 1 Tryz.func9 aEn
noncomputable def mG:SC:=aS Tryz.f10
noncomputable def jC:Nat->Code:=lpOf Tryz.f10
theorem vC:aL (aP Tryz.f10)=true:=kr
theorem oL:FN 10 Tryz.f10 [] Bz2 jC mG true [.tmp 4,.tmp 5]:=fN 3 Tryz.func10 vC
noncomputable def rZ:SC:=aY Tryz.f10 0
theorem tJ:ST jC 0 rZ:=sT vC
noncomputable def sY:SC:=aY Tryz.f10 1
theorem uI:ST jC 1 sY:=sT vC
noncomputable def zZ:SC:=aY Tryz.f10 2
theorem E8:ST jC 2 zZ:=sT vC
noncomputable def sL:SC:=aS Tryz.f11
noncomputable def aEb:Nat->Code:=lpOf Tryz.f11
theorem aDA:aL (aP Tryz.f11)=true:=kr
theorem yO:FN 11 Tryz.f11 [] ([]) aEb sL false [.tmp 6]:=fN 1 Tryz.func11 aDA
noncomputable def yZ:SC:=aS Tryz.f13
noncomputable def P4:Nat->Code:=lpOf Tryz.f13
theorem P9:aL (aP Tryz.f13)=true:=kr
theorem PQ:FN 13 Tryz.f13 [] ([]) P4 yZ false (Tryz.f13.results.toList):=fN 2 Tryz.func13 P9
noncomputable def yK:SC:=aS Tryz.f14
noncomputable def aBE:Nat->Code:=lpOf Tryz.f14
theorem aBC:aL (aP Tryz.f14)=true:=kr
theorem HF:FN 14 Tryz.f14 [] ([]) aBE yK false [.tmp 4]:=fN 1 Tryz.func14 aBC
noncomputable def eX:SC:=aS Tryz.f20
noncomputable def RR:Nat->Code:=lpOf Tryz.f20
theorem SK:aL (aP Tryz.f20)=true:=kr
theorem gI:FN 20 Tryz.f20 [] ([]) RR eX false (Tryz.f20.results.toList):=fN 2 Tryz.func20 SK
noncomputable def lU:SC:=aS Tryz.f21
noncomputable def wF:Nat->Code:=lpOf Tryz.f21
theorem HQ:aL (aP Tryz.f21)=true:=kr
theorem nX:FN 21 Tryz.f21 [] Bz34 wF lU false [.tmp 6,.tmp 7]:=fN 1 Tryz.func21 HQ
noncomputable def mT:SC:=aY Tryz.f21 0
theorem oO:ST wF 0 mT:=sT HQ
noncomputable def sG:SC:=aS Tryz.f22
noncomputable def aEc:Nat->Code:=lpOf Tryz.f22
theorem aEi:aL (aP Tryz.f22)=true:=kr
theorem x7:FN 22 Tryz.f22 [] ([]) aEc sG false [.tmp 4]:=fN 1 Tryz.func22 aEi
noncomputable def eQ:SC:=aS Tryz.f23
noncomputable def i8:Nat->Code:=lpOf Tryz.f23
theorem rQ:aL (aP Tryz.f23)=true:=kr
theorem fO:FN 23 Tryz.f23 [] Bz10 i8 eQ false [.tmp 2]:=fN 1 Tryz.func23 rQ
noncomputable def iE:SC:=aY Tryz.f23 0
theorem iZ:ST i8 0 iE:=sT rQ
noncomputable def hM:SC:=aY Tryz.f23 1
theorem i7:ST i8 1 hM:=sT rQ
noncomputable def VT:SC:=aS Tryz.f24
noncomputable def jK:Nat->Code:=lpOf Tryz.f24
theorem uV:aL (aP Tryz.f24)=true:=kr
theorem aHT:FN 24 Tryz.f24 (W8 (W4 [2002])) Bz6 jK VT false [.tmp 4]:=fN 2 Tryz.func24 uV
noncomputable def BG:SC:=aY Tryz.f24 0
theorem FO:ST jK 0 BG:=sT uV
noncomputable def BU:SC:=aY Tryz.f24 1
theorem FH:ST jK 1 BU:=sT uV
noncomputable def BD:SC:=aY Tryz.f24 2
theorem FE:ST jK 2 BD:=sT uV
noncomputable def CK:SC:=aS Tryz.f25
noncomputable def gX:Nat->Code:=lpOf Tryz.f25
theorem p9:aL (aP Tryz.f25)=true:=kr
theorem U6:FN 25 Tryz.f25 [] Bz18 gX CK true [.tmp 2]:=fN 3 Tryz.func25 p9
noncomputable def nZ:SC:=aY Tryz.f25 0
theorem tP:ST gX 0 nZ:=sT p9
noncomputable def gJ:SC:=aY Tryz.f25 1
theorem gS:ST gX 1 gJ:=sT p9
noncomputable def RU:SC:=aS Tryz.f26
noncomputable def BJ:Nat->Code:=lpOf Tryz.f26
theorem OZ:aL (aP Tryz.f26)=true:=kr
theorem aFh:FN 26 Tryz.f26 [0,0,0,2] Bz55 BJ RU true [.tmp 2]:=fN 3 Tryz.func26 OZ
noncomputable def qB:SC:=aY Tryz.f26 0
theorem rR:ST BJ 0 qB:=sT OZ
theorem B5{L n:Nat}{args:List A}{h:H}:aA env L (n+1) 27 args h=DI 60 29 args h:=by
 have:env.prim 27=some (DI 60 29):=kr;simp only[aA,this]
noncomputable def iT:SC:=aS Tryz.f28
noncomputable def pN:Nat->Code:=lpOf Tryz.f28
theorem pY:aL (aP Tryz.f28)=true:=kr
theorem qI:FN 28 Tryz.f28 [] ([]) pN iT true [.tmp 2]:=fN 0 Tryz.func28 pY
noncomputable def aAr:SC:=aS Tryz.f29
noncomputable def aKI:Nat->Code:=lpOf Tryz.f29
theorem aKg:aL (aP Tryz.f29)=true:=kr
noncomputable def mE:SC:=aS Tryz.f30
noncomputable def jM:Nat->Code:=lpOf Tryz.f30
theorem vF:aL (aP Tryz.f30)=true:=kr
theorem oD:FN 30 Tryz.f30 [] Bz13 jM mE false [.tmp 4,.tmp 5]:=fN 2 Tryz.func30 vF
noncomputable def sS:SC:=aY Tryz.f30 0
theorem tZ:ST jM 0 sS:=sT vF
noncomputable def sH:SC:=aY Tryz.f30 1
theorem tU:ST jM 1 sH:=sT vF
noncomputable def sM:SC:=aY Tryz.f30 2
theorem uH:ST jM 2 sM:=sT vF
noncomputable def lS:SC:=aS Tryz.f31
noncomputable def wB:Nat->Code:=lpOf Tryz.f31
theorem HV:aL (aP Tryz.f31)=true:=kr
theorem nV:FN 31 Tryz.f31 [] Bz35 wB lS false [.tmp 6,.tmp 7]:=fN 1 Tryz.func31 HV
noncomputable def m5:SC:=aY Tryz.f31 0
theorem oG:ST wB 0 m5:=sT HV
noncomputable def O2:SC:=aS Tryz.f32
noncomputable def aQU:Nat->Code:=lpOf Tryz.f32
theorem aQw:aL (aP Tryz.f32)=true:=kr
theorem UR:FN 32 Tryz.f32 [] ([]) aQU O2 false [.tmp 4]:=fN 1 Tryz.func32 aQw
noncomputable def ZW:SC:=aS Tryz.f33
noncomputable def rA:Nat->Code:=lpOf Tryz.f33
theorem GX:aL (aP Tryz.f33)=true:=kr
theorem aKo:FN 33 Tryz.f33 (W4 (W2 (W1 [2]))) Bz5 rA ZW false (Tryz.f33.results.toList):=fN 2 Tryz.func33 GX
noncomputable def oE:SC:=aY Tryz.f33 0
theorem nN:ST rA 0 oE:=sT GX
noncomputable def CT:SC:=aY Tryz.f33 1
theorem HX:ST rA 1 CT:=sT GX
noncomputable def JJ:SC:=aS Tryz.f34
noncomputable def aKW:Nat->Code:=lpOf Tryz.f34
theorem aKh:aL (aP Tryz.f34)=true:=kr
theorem WV:FN 34 Tryz.f34 [] ([]) aKW JJ false [.tmp 4,.tmp 5]:=fN 1 Tryz.func34 aKh
noncomputable def P2:SC:=aS Tryz.f35
noncomputable def aLg:Nat->Code:=lpOf Tryz.f35
theorem aK9:aL (aP Tryz.f35)=true:=kr
theorem aAG:FN 35 Tryz.f35 [] ([]) aLg P2 true [.tmp 2]:=fN 2 Tryz.func35 aK9
noncomputable def W3:SC:=aS Tryz.f37
noncomputable def aHH:Nat->Code:=lpOf Tryz.f37
theorem aHe:aL (aP Tryz.f37)=true:=kr
theorem aHX:FN 37 Tryz.f37 [] ([]) aHH W3 false [.tmp 4]:=fN 0 Tryz.func37 aHe
noncomputable def eL:SC:=aS Tryz.f40
noncomputable def rW:Nat->Code:=lpOf Tryz.f40
theorem CM:aL (aP Tryz.f40)=true:=kr
theorem fM:FN 40 Tryz.f40 [] Bz61 rW eL false [.tmp 2]:=fN 1 Tryz.func40 CM
noncomputable def kN:SC:=aY Tryz.f40 0
theorem mD:ST rW 0 kN:=sT CM
noncomputable def jQ:SC:=aS Tryz.f45
noncomputable def aLZ:Nat->Code:=lpOf Tryz.f45
theorem aLR:aL (aP Tryz.f45)=true:=kr
theorem j3:FN 45 Tryz.f45 [] ([]) aLZ jQ false (Tryz.f45.results.toList):=fN 0 Tryz.func45 aLR
noncomputable def eN:SC:=aS Tryz.f46
noncomputable def aKt:Nat->Code:=lpOf Tryz.f46
theorem aKR:aL (aP Tryz.f46)=true:=kr
theorem eT:FN 46 Tryz.f46 (W32 (W32 (W16 (W8 (W4 (W1 [1002])))))) ([]) aKt eN false (Tryz.f46.results.toList):=fN 0 Tryz.func46 aKR
noncomputable def oI:SC:=aS Tryz.f47
noncomputable def aGs:Nat->Code:=lpOf Tryz.f47
theorem aG5:aL (aP Tryz.f47)=true:=kr
theorem sW:FN 47 Tryz.f47 [] ([]) aGs oI false [.tmp 4]:=fN 0 Tryz.func47 aG5
noncomputable def U7:SC:=aS Tryz.f48
noncomputable def aOa:Nat->Code:=lpOf Tryz.f48
theorem aNN:aL (aP Tryz.f48)=true:=kr
theorem aC5:FN 48 Tryz.f48 [] ([]) aOa U7 false (Tryz.f48.results.toList):=fN 0 Tryz.func48 aNN
noncomputable def oV:SC:=aS Tryz.f49
noncomputable def PX:Nat->Code:=lpOf Tryz.f49
theorem P1:aL (aP Tryz.f49)=true:=kr
theorem wX:FN 49 Tryz.f49 [] ([]) PX oV false (Tryz.f49.results.toList):=fN 2 Tryz.func49 P1
noncomputable def Y7:SC:=aS Tryz.f50
noncomputable def aKe:Nat->Code:=lpOf Tryz.f50
theorem aKO:aL (aP Tryz.f50)=true:=kr
theorem aKU:FN 50 Tryz.f50 [] ([]) aKe Y7 false [.tmp 2]:=fN 0 Tryz.func50 aKO
noncomputable def OM:SC:=aS Tryz.f51
noncomputable def aEm:Nat->Code:=lpOf Tryz.f51
theorem aEw:aL (aP Tryz.f51)=true:=kr
theorem aDT:FN 51 Tryz.f51 [] ([]) aEm OM false [.tmp 4]:=fN 1 Tryz.func51 aEw
noncomputable def RQ:SC:=aS Tryz.f52
noncomputable def aGl:Nat->Code:=lpOf Tryz.f52
theorem aF8:aL (aP Tryz.f52)=true:=kr
theorem aFK:FN 52 Tryz.f52 [] ([]) aGl RQ false [.tmp 2]:=fN 1 Tryz.func52 aF8
noncomputable def WP:SC:=aS Tryz.f53
noncomputable def vG:Nat->Code:=lpOf Tryz.f53
theorem SS:aL (aP Tryz.f53)=true:=kr
theorem aHM:FN 53 Tryz.f53 [0,0,0,2] Bz30 vG WP false [.tmp 2]:=fN 2 Tryz.func53 SS
noncomputable def sQ:SC:=aY Tryz.f53 0
theorem uE:ST vG 0 sQ:=sT SS
noncomputable def RM:SC:=aS Tryz.f54
noncomputable def aFQ:Nat->Code:=lpOf Tryz.f54
theorem aGG:aL (aP Tryz.f54)=true:=kr
theorem aFZ:FN 54 Tryz.f54 [] ([]) aFQ RM false [.tmp 2]:=fN 1 Tryz.func54 aGG
noncomputable def gZ:SC:=aS Tryz.f55
noncomputable def aDX:Nat->Code:=lpOf Tryz.f55
theorem aDS:aL (aP Tryz.f55)=true:=kr
theorem jE:FN 55 Tryz.f55 [] ([]) aDX gZ false [.tmp 6,.tmp 7]:=fN 1 Tryz.func55 aDS
noncomputable def lZ:SC:=aS Tryz.f56
noncomputable def yF:Nat->Code:=lpOf Tryz.f56
theorem yM:aL (aP Tryz.f56)=true:=kr
theorem yD:FN 56 Tryz.f56 [] ([]) yF lZ false [.tmp 4]:=fN 1 Tryz.func56 yM
noncomputable def D3:SC:=aS Tryz.f57
noncomputable def aG3:Nat->Code:=lpOf Tryz.f57
theorem aGX:aL (aP Tryz.f57)=true:=kr
theorem OH:FN 57 Tryz.f57 [] ([]) aG3 D3 false [.tmp 4,.tmp 5]:=fN 1 Tryz.func57 aGX
theorem wE{L n:Nat}{args:List A}{h:H}:aA env L (n+1) 58 args h=L9 29 args h:=by
 have:env.prim 58=some (L9 29):=kr;simp only[aA,this]
noncomputable def K6:SC:=aS Tryz.f61
noncomputable def qP:Nat->Code:=lpOf Tryz.f61
theorem V5:aL (aP Tryz.f61)=true:=kr
noncomputable def u5:SC:=aY Tryz.f61 0
noncomputable def nP:SC:=aS Tryz.f62
noncomputable def aAs:Nat->Code:=lpOf Tryz.f62
theorem ZF:aL (aP Tryz.f62)=true:=kr
noncomputable def kQ:SC:=aS Tryz.f63
noncomputable def RF:Nat->Code:=lpOf Tryz.f63
theorem Q3:aL (aP Tryz.f63)=true:=kr
noncomputable def CY:SC:=aS Tryz.f64
noncomputable def AY:Nat->Code:=lpOf Tryz.f64
theorem O1:aL (aP Tryz.f64)=true:=kr
theorem N9:FN 64 Tryz.f64 [] Bz66 AY CY false [.tmp 2]:=fN 2 Tryz.func64 O1
noncomputable def yN:SC:=aY Tryz.f64 0
theorem CF:ST AY 0 yN:=sT O1
noncomputable def rX:SC:=aS Tryz.f65
noncomputable def iD:Nat->Code:=lpOf Tryz.f65
theorem pV:aL (aP Tryz.f65)=true:=kr
theorem AH:FN 65 Tryz.f65 [] Bz42 iD rX false [.tmp 2]:=fN 2 Tryz.func65 pV
noncomputable def o6:SC:=aY Tryz.f65 0
theorem tS:ST iD 0 o6:=sT pV
noncomputable def gF:SC:=aY Tryz.f65 1
theorem hY:ST iD 1 gF:=sT pV
noncomputable def W0:SC:=aS Tryz.f66
noncomputable def lG:Nat->Code:=lpOf Tryz.f66
theorem DP:aL (aP Tryz.f66)=true:=kr
theorem aH8:FN 66 Tryz.f66 [] Bz14 lG W0 false [.tmp 4]:=fN 2 Tryz.func66 DP
noncomputable def sV:SC:=aY Tryz.f66 0
theorem tX:ST lG 0 sV:=sT DP
noncomputable def zX:SC:=aY Tryz.f66 1
theorem FD:ST lG 1 zX:=sT DP
noncomputable def IQ:SC:=aS Tryz.f67
noncomputable def QM:Nat->Code:=lpOf Tryz.f67
theorem aC1:aL (aP Tryz.f67)=true:=kr
theorem QJ:FN 67 Tryz.f67 [] Bz62 QM IQ false [.tmp 4]:=fN 0 Tryz.func67 aC1
noncomputable def JR:SC:=aY Tryz.f67 0
theorem O8:ST QM 0 JR:=sT aC1
noncomputable def OC:SC:=aS Tryz.f68
noncomputable def aDJ:Nat->Code:=lpOf Tryz.f68
theorem aEu:aL (aP Tryz.f68)=true:=kr
theorem aEH:FN 68 Tryz.f68 [] ([]) aDJ OC false [.tmp 4]:=fN 1 Tryz.func68 aEu
noncomputable def WF:SC:=aS Tryz.f69
noncomputable def eY:Nat->Code:=lpOf Tryz.f69
theorem n5:aL (aP Tryz.f69)=true:=kr
theorem aIi:FN 69 Tryz.f69 [] Bz0 eY WF false [.tmp 2]:=fN 2 Tryz.func69 n5
noncomputable def sB:SC:=aY Tryz.f69 0
theorem tC:ST eY 0 sB:=sT n5
noncomputable def zU:SC:=aY Tryz.f69 1
theorem EO:ST eY 1 zU:=sT n5
noncomputable def r6:SC:=aY Tryz.f69 2
theorem uL:ST eY 2 r6:=sT n5
noncomputable def BX:SC:=aY Tryz.f69 3
theorem EU:ST eY 3 BX:=sT n5
noncomputable def aMZ:SC:=aS Tryz.f70
noncomputable def aAz:Nat->Code:=lpOf Tryz.f70
theorem aJ9:aL (aP Tryz.f70)=true:=kr
theorem aRH:FN 70 Tryz.f70 [] Bz26 aAz aMZ false (Tryz.f70.results.toList):=fN 2 Tryz.func70 aJ9
noncomputable def IL:SC:=aY Tryz.f70 0
theorem HB:ST aAz 0 IL:=sT aJ9
noncomputable def NQ:SC:=aS Tryz.f71
noncomputable def aD4:Nat->Code:=lpOf Tryz.f71
theorem aDl:aL (aP Tryz.f71)=true:=kr
theorem aDz:FN 71 Tryz.f71 [] ([]) aD4 NQ false [.tmp 10,.tmp 11]:=fN 1 Tryz.func71 aDl
noncomputable def PH:SC:=aS Tryz.f72
noncomputable def aEk:Nat->Code:=lpOf Tryz.f72
theorem aDc:aL (aP Tryz.f72)=true:=kr
theorem aDF:FN 72 Tryz.f72 [] ([]) aEk PH false [.tmp 4]:=fN 0 Tryz.func72 aDc
noncomputable def aAM:SC:=aS Tryz.f74
noncomputable def aKf:Nat->Code:=lpOf Tryz.f74
theorem aKj:aL (aP Tryz.f74)=true:=kr
theorem aKP:FN 74 Tryz.f74 [] ([]) aKf aAM false [.tmp 4]:=fN 0 Tryz.func74 aKj
noncomputable def Q1:SC:=aS Tryz.f80
noncomputable def aFj:Nat->Code:=lpOf Tryz.f80
theorem aFz:aL (aP Tryz.f80)=true:=kr
theorem aFa:FN 80 Tryz.f80 [] ([]) aFj Q1 false [.tmp 2]:=fN 1 Tryz.func80 aFz
noncomputable def OG:SC:=aS Tryz.f81
noncomputable def S0:Nat->Code:=lpOf Tryz.f81
theorem aFe:aL (aP Tryz.f81)=true:=kr
theorem UC:FN 81 Tryz.f81 [] Bz39 S0 OG false [.tmp 6]:=fN 1 Tryz.func81 aFe
noncomputable def xD:SC:=aY Tryz.f81 0
theorem vJ:ST S0 0 xD:=sT aFe
noncomputable def VV:SC:=aS Tryz.f82
noncomputable def DL:Nat->Code:=lpOf Tryz.f82
theorem QT:aL (aP Tryz.f82)=true:=kr
theorem aHQ:FN 82 Tryz.f82 [] Bz58 DL VV false [.tmp 2]:=fN 2 Tryz.func82 QT
noncomputable def sO:SC:=aY Tryz.f82 0
theorem tK:ST DL 0 sO:=sT QT
noncomputable def aFq:SC:=aS Tryz.f91
noncomputable def aNT:Nat->Code:=lpOf Tryz.f91
theorem aOx:aL (aP Tryz.f91)=true:=kr
theorem aOG:FN 91 Tryz.f91 [] ([]) aNT aFq false [.tmp 2]:=fN 1 Tryz.func91 aOx
noncomputable def dA:SC:=aS Tryz.f92
noncomputable def AD:Nat->Code:=lpOf Tryz.f92
theorem ZH:aL (aP Tryz.f92)=true:=kr
theorem cW:FN 92 Tryz.f92 (W32 (W32 (W16 (W2 (W1 [1002,0,0,0,0,0,0,0,0,0,0,0,0,0,0,0,0,0,0,0,0,0,1002]))))) Bz22 AD dA false (Tryz.f92.results.toList):=fN 0 Tryz.func92 ZH
noncomputable def xX:SC:=aY Tryz.f92 0
theorem x9:ST AD 0 xX:=sT ZH
noncomputable def aJr:SC:=aS Tryz.f93
noncomputable def IJ:Nat->Code:=lpOf Tryz.f93
theorem aF3:aL (aP Tryz.f93)=true:=kr
theorem aQ7:FN 93 Tryz.f93 [] Bz25 IJ aJr false (Tryz.f93.results.toList):=fN 0 Tryz.func93 aF3
noncomputable def EF:SC:=aY Tryz.f93 0
theorem DQ:ST IJ 0 EF:=sT aF3
noncomputable def aAP:SC:=aS Tryz.f94
noncomputable def kA:Nat->Code:=lpOf Tryz.f94
theorem GR:aL (aP Tryz.f94)=true:=kr
theorem aKM:FN 94 Tryz.f94 (W32 (W4 (W1 [1002]))) Bz7 kA aAP true (Tryz.f94.results.toList):=fN 0 Tryz.func94 GR
noncomputable def uP:SC:=aY Tryz.f94 0
theorem wG:ST kA 0 uP:=sT GR
noncomputable def oQ:SC:=aY Tryz.f94 1
theorem nO:ST kA 1 oQ:=sT GR
noncomputable def TA:SC:=aS Tryz.f95
noncomputable def rF:Nat->Code:=lpOf Tryz.f95
theorem aCa:aL (aP Tryz.f95)=true:=kr
theorem aCM:FN 95 Tryz.f95 (W16 (W8 (W4 [1002]))) Bz16 rF TA true (Tryz.f95.results.toList):=fN 2 Tryz.func95 aCa
noncomputable def tQ:SC:=aY Tryz.f95 0
theorem sK:ST rF 0 tQ:=sT aCa
noncomputable def US:SC:=aS Tryz.f97
noncomputable def aOm:Nat->Code:=lpOf Tryz.f97
theorem aNV:aL (aP Tryz.f97)=true:=kr
theorem aB3:FN 97 Tryz.f97 [] ([]) aOm US false (Tryz.f97.results.toList):=fN 0 Tryz.func97 aNV
noncomputable def V3:SC:=aS Tryz.f98
noncomputable def nY:Nat->Code:=lpOf Tryz.f98
theorem DY:aL (aP Tryz.f98)=true:=kr
theorem aHJ:FN 98 Tryz.f98 [] Bz33 nY V3 false (Tryz.f98.results.toList):=fN 2 Tryz.func98 DY
noncomputable def sR:SC:=aY Tryz.f98 0
theorem tY:ST nY 0 sR:=sT DY
noncomputable def AF:SC:=aY Tryz.f98 1
theorem FP:ST nY 1 AF:=sT DY
noncomputable def u6:SC:=aS Tryz.f99
noncomputable def zT:Nat->Code:=lpOf Tryz.f99
theorem M7:aL (aP Tryz.f99)=true:=kr
theorem A7:FN 99 Tryz.f99 [] Bz37 zT u6 false [.tmp 4]:=fN 1 Tryz.func99 M7
noncomputable def x3:SC:=aY Tryz.f99 0
theorem CI:ST zT 0 x3:=sT M7
noncomputable def aOI:SC:=aS Tryz.f100
noncomputable def aUK:Nat->Code:=lpOf Tryz.f100
theorem aTU:aL (aP Tryz.f100)=true:=kr
theorem aUL:FN 100 Tryz.f100 [] ([]) aUK aOI false [.tmp 4]:=fN 1 Tryz.func100 aTU
noncomputable def FR:SC:=aS Tryz.f101
noncomputable def XJ:Nat->Code:=lpOf Tryz.f101
theorem XM:aL (aP Tryz.f101)=true:=kr
theorem XU:FN 101 Tryz.f101 [] ([]) XJ FR false [.tmp 4]:=fN 0 Tryz.func101 XM
noncomputable def jF:SC:=aS Tryz.f102
noncomputable def iW:Nat->Code:=lpOf Tryz.f102
theorem nL:aL (aP Tryz.f102)=true:=kr
theorem nK:FN 102 Tryz.f102 [] Bz59 iW jF false [.tmp 4]:=fN 1 Tryz.func102 nL
noncomputable def eI:SC:=aY Tryz.f102 0
theorem fT:ST iW 0 eI:=sT nL
noncomputable def WB:SC:=aS Tryz.f103
noncomputable def aHS:Nat->Code:=lpOf Tryz.f103
theorem aHD:aL (aP Tryz.f103)=true:=kr
theorem aHy:FN 103 Tryz.f103 [] ([]) aHS WB false [.tmp 4,.tmp 5]:=fN 1 Tryz.func103 aHD
noncomputable def wD:SC:=aS Tryz.f104
noncomputable def XV:Nat->Code:=lpOf Tryz.f104
theorem X4:aL (aP Tryz.f104)=true:=kr
theorem FT:FN 104 Tryz.f104 [] ([]) XV wD false [.tmp 3]:=fN 0 Tryz.func104 X4
noncomputable def N7:SC:=aS Tryz.f108
noncomputable def aDt:Nat->Code:=lpOf Tryz.f108
theorem aDB:aL (aP Tryz.f108)=true:=kr
noncomputable def F4:SC:=aS Tryz.f109
noncomputable def XP:Nat->Code:=lpOf Tryz.f109
theorem XQ:aL (aP Tryz.f109)=true:=kr
noncomputable def aGI:SC:=aS Tryz.f110
noncomputable def xB:Nat->Code:=lpOf Tryz.f110
theorem P6:aL (aP Tryz.f110)=true:=kr
theorem aOo:FN 110 Tryz.f110 [] Bz23 xB aGI false (Tryz.f110.results.toList):=fN 2 Tryz.func110 P6
noncomputable def BT:SC:=aY Tryz.f110 0
theorem AP:ST xB 0 BT:=sT P6
noncomputable def L8:SC:=aY Tryz.f110 1
theorem NW:ST xB 1 L8:=sT P6
noncomputable def vK:SC:=aS Tryz.f111
noncomputable def aGm:Nat->Code:=lpOf Tryz.f111
theorem aGQ:aL (aP Tryz.f111)=true:=kr
theorem A3:FN 111 Tryz.f111 [] ([]) aGm vK false [.tmp 4,.tmp 5]:=fN 1 Tryz.func111 aGQ
noncomputable def mV:SC:=aS Tryz.f112
noncomputable def aDs:Nat->Code:=lpOf Tryz.f112
theorem aDj:aL (aP Tryz.f112)=true:=kr
theorem pO:FN 112 Tryz.f112 [] ([]) aDs mV false [.tmp 6,.tmp 7]:=fN 1 Tryz.func112 aDj
noncomputable def ZI:SC:=aS Tryz.f113
noncomputable def TN:Nat->Code:=lpOf Tryz.f113
theorem aE7:aL (aP Tryz.f113)=true:=kr
theorem aGk:FN 113 Tryz.f113 [] Bz38 TN ZI false [.tmp 4]:=fN 1 Tryz.func113 aE7
noncomputable def D7:SC:=aY Tryz.f113 0
theorem DB:ST TN 0 D7:=sT aE7
noncomputable def YA:SC:=aS Tryz.f114
noncomputable def GQ:Nat->Code:=lpOf Tryz.f114
theorem VS:aL (aP Tryz.f114)=true:=kr
theorem aKJ:FN 114 Tryz.f114 [] Bz63 GQ YA false [.tmp 4]:=fN 1 Tryz.func114 VS
noncomputable def oZ:SC:=aY Tryz.f114 0
theorem nU:ST GQ 0 oZ:=sT VS
noncomputable def Q7:SC:=aS Tryz.f115
noncomputable def aFS:Nat->Code:=lpOf Tryz.f115
theorem aGd:aL (aP Tryz.f115)=true:=kr
theorem aE4:FN 115 Tryz.f115 [] ([]) aFS Q7 false [.tmp 4]:=fN 1 Tryz.func115 aGd
noncomputable def Q8:SC:=aS Tryz.f116
noncomputable def aG4:Nat->Code:=lpOf Tryz.f116
theorem aFP:aL (aP Tryz.f116)=true:=kr
theorem aFR:FN 116 Tryz.f116 [] ([]) aG4 Q8 false [.tmp 2]:=fN 1 Tryz.func116 aFP
noncomputable def aCO:SC:=aS Tryz.f117
noncomputable def lQ:Nat->Code:=lpOf Tryz.f117
theorem A0:aL (aP Tryz.f117)=true:=kr
theorem aMV:FN 117 Tryz.f117 [] Bz4 lQ aCO false [.tmp 2]:=fN 2 Tryz.func117 A0
noncomputable def G3:SC:=aY Tryz.f117 0
theorem LZ:ST lQ 0 G3:=sT A0
noncomputable def GU:SC:=aY Tryz.f117 1
theorem KN:ST lQ 1 GU:=sT A0
noncomputable def GL:SC:=aY Tryz.f117 2
theorem LH:ST lQ 2 GL:=sT A0
noncomputable def LD:SC:=aS Tryz.f118
noncomputable def iP:Nat->Code:=lpOf Tryz.f118
theorem wC:aL (aP Tryz.f118)=true:=kr
theorem aBH:FN 118 Tryz.f118 (W8 (W4 (W1 [2,0,2]))) Bz9 iP LD false [.tmp 8,.tmp 9,.tmp 10]:=fN 2 Tryz.func118 wC
noncomputable def s5:SC:=aY Tryz.f118 0
theorem yY:ST iP 0 s5:=sT wC
noncomputable def mJ:SC:=aY Tryz.f118 1
theorem oR:ST iP 1 mJ:=sT wC
noncomputable def aB5:SC:=aS Tryz.f119
noncomputable def aMX:Nat->Code:=lpOf Tryz.f119
theorem aLv:aL (aP Tryz.f119)=true:=kr
theorem aLI:FN 119 Tryz.f119 [] ([]) aMX aB5 false [.tmp 5]:=fN 0 Tryz.func119 aLv
noncomputable def E7:SC:=aS Tryz.f120
noncomputable def XL:Nat->Code:=lpOf Tryz.f120
theorem XF:aL (aP Tryz.f120)=true:=kr
theorem XG:FN 120 Tryz.f120 [] ([]) XL E7 false [.tmp 9]:=fN 0 Tryz.func120 XF
noncomputable def xU:SC:=aS Tryz.f121
noncomputable def jN:Nat->Code:=lpOf Tryz.f121
theorem uN:aL (aP Tryz.f121)=true:=kr
theorem C6:FN 121 Tryz.f121 (W16 (W2 [2])) Bz3 jN xU false [.tmp 10,.tmp 11]:=fN 1 Tryz.func121 uN
noncomputable def mO:SC:=aY Tryz.f121 0
theorem mY:ST jN 0 mO:=sT uN
noncomputable def sP:SC:=aY Tryz.f121 1
theorem uJ:ST jN 1 sP:=sT uN
noncomputable def A5:SC:=aY Tryz.f121 2
theorem EY:ST jN 2 A5:=sT uN
noncomputable def E9:SC:=aS Tryz.f122
noncomputable def XH:Nat->Code:=lpOf Tryz.f122
theorem XE:aL (aP Tryz.f122)=true:=kr
theorem XA:FN 122 Tryz.f122 [] ([]) XH E9 false [.tmp 6]:=fN 0 Tryz.func122 XE
noncomputable def ZY:SC:=aS Tryz.f129
noncomputable def aKB:Nat->Code:=lpOf Tryz.f129
theorem aKG:aL (aP Tryz.f129)=true:=kr
theorem aKF:FN 129 Tryz.f129 [] ([]) aKB ZY false [.tmp 4]:=fN 1 Tryz.func129 aKG
noncomputable def aJx:SC:=aS Tryz.f137
noncomputable def aQC:Nat->Code:=lpOf Tryz.f137
theorem aQ1:aL (aP Tryz.f137)=true:=kr
theorem aP8:FN 137 Tryz.f137 [] ([]) aQC aJx false [.tmp 4]:=fN 1 Tryz.func137 aQ1
noncomputable def EK:SC:=aS Tryz.f139
noncomputable def eB:Nat->Code:=lpOf Tryz.f139
theorem tT:aL (aP Tryz.f139)=true:=kr
theorem KL:FN 139 Tryz.f139 [] Bz1 eB EK false [.tmp 2,.tmp 3]:=fN 1 Tryz.func139 tT
noncomputable def GW:SC:=aY Tryz.f139 0
theorem JP:ST eB 0 GW:=sT tT
noncomputable def xP:SC:=aY Tryz.f139 1
theorem yQ:ST eB 1 xP:=sT tT
noncomputable def qO:SC:=aY Tryz.f139 2
theorem pT:ST eB 2 qO:=sT tT
noncomputable def rD:SC:=aY Tryz.f139 3
theorem pL:ST eB 3 rD:=sT tT
noncomputable def aG2:SC:=aS Tryz.f146
noncomputable def rG:Nat->Code:=lpOf Tryz.f146
theorem P8:aL (aP Tryz.f146)=true:=kr
theorem aN0:FN 146 Tryz.f146 [] Bz12 rG aG2 false (Tryz.f146.results.toList):=fN 0 Tryz.func146 P8
noncomputable def L7:SC:=aY Tryz.f146 0
theorem ON:ST rG 0 L7:=sT P8
noncomputable def KI:SC:=aY Tryz.f146 1
theorem OF:ST rG 1 KI:=sT P8
noncomputable def WS:SC:=aS Tryz.f147
noncomputable def oS:Nat->Code:=lpOf Tryz.f147
theorem DF:aL (aP Tryz.f147)=true:=kr
theorem aHl:FN 147 Tryz.f147 [] Bz29 oS WS false [.tmp 2,.tmp 3]:=fN 2 Tryz.func147 DF
noncomputable def sU:SC:=aY Tryz.f147 0
theorem tN:ST oS 0 sU:=sT DF
noncomputable def AU:SC:=aY Tryz.f147 1
theorem F6:ST oS 1 AU:=sT DF
noncomputable def aDa:SC:=aS Tryz.f148
noncomputable def KK:Nat->Code:=lpOf Tryz.f148
theorem XZ:aL (aP Tryz.f148)=true:=kr
theorem aLP:FN 148 Tryz.f148 [] Bz69 KK aDa false [.tmp 4]:=fN 1 Tryz.func148 XZ
noncomputable def GK:SC:=aY Tryz.f148 0
theorem JS:ST KK 0 GK:=sT XZ
noncomputable def oF:SC:=aS Tryz.f149
noncomputable def BI:Nat->Code:=lpOf Tryz.f149
theorem PF:aL (aP Tryz.f149)=true:=kr
theorem sJ:FN 149 Tryz.f149 [] Bz52 BI oF false [.tmp 4]:=fN 1 Tryz.func149 PF
noncomputable def pQ:SC:=aY Tryz.f149 0
theorem rU:ST BI 0 pQ:=sT PF
noncomputable def MH:SC:=aS Tryz.f150
noncomputable def aBX:Nat->Code:=lpOf Tryz.f150
theorem aBP:aL (aP Tryz.f150)=true:=kr
theorem aB0:FN 150 Tryz.f150 [] ([]) aBX MH false [.tmp 7]:=fN 0 Tryz.func150 aBP
noncomputable def aDb:SC:=aS Tryz.f161
noncomputable def n4:Nat->Code:=lpOf Tryz.f161
theorem MQ:aL (aP Tryz.f161)=true:=kr
theorem aM7:FN 161 Tryz.f161 [] Bz36 n4 aDb false [.tmp 2]:=fN 2 Tryz.func161 MQ
noncomputable def GO:SC:=aY Tryz.f161 0
theorem MU:ST n4 0 GO:=sT MQ
noncomputable def xR:SC:=aY Tryz.f161 1
theorem yP:ST n4 1 xR:=sT MQ
noncomputable def EH:SC:=aS Tryz.f162
noncomputable def aMT:Nat->Code:=lpOf Tryz.f162
theorem aNs:aL (aP Tryz.f162)=true:=kr
theorem K7:FN 162 Tryz.f162 [] ([]) aMT EH false [.tmp 4]:=fN 1 Tryz.func162 aNs
noncomputable def u4:SC:=aS Tryz.f163
noncomputable def aE0:Nat->Code:=lpOf Tryz.f163
theorem aGD:aL (aP Tryz.f163)=true:=kr
theorem BO:FN 163 Tryz.f163 [] ([]) aE0 u4 false [.tmp 4]:=fN 1 Tryz.func163 aGD
noncomputable def RH:SC:=aS Tryz.f164
noncomputable def aFW:Nat->Code:=lpOf Tryz.f164
theorem aGU:aL (aP Tryz.f164)=true:=kr
theorem aGh:FN 164 Tryz.f164 [] ([]) aFW RH false [.tmp 4]:=fN 1 Tryz.func164 aGU
noncomputable def aJp:SC:=aS Tryz.f165
noncomputable def UW:Nat->Code:=lpOf Tryz.f165
theorem aF0:aL (aP Tryz.f165)=true:=kr
theorem aQP:FN 165 Tryz.f165 [] Bz53 UW aJp false [.tmp 6]:=fN 1 Tryz.func165 aF0
noncomputable def P5:SC:=aY Tryz.f165 0
theorem SR:ST UW 0 P5:=sT aF0
noncomputable def vY:SC:=aS Tryz.f166
noncomputable def LJ:Nat->Code:=lpOf Tryz.f166
theorem KO:aL (aP Tryz.f166)=true:=kr
theorem J6:FN 166 Tryz.f166 [] ([]) LJ vY false [.tmp 2]:=fN 1 Tryz.func166 KO
noncomputable def pZ:SC:=aS Tryz.f167
noncomputable def nT:Nat->Code:=lpOf Tryz.f167
theorem H0:aL (aP Tryz.f167)=true:=kr
theorem wL:FN 167 Tryz.f167 (W8 (W2 [2])) Bz11 nT pZ false [.tmp 9]:=fN 0 Tryz.func167 H0
noncomputable def cM:SC:=aY Tryz.f167 0
theorem cI:ST nT 0 cM:=sT H0
noncomputable def aAh:SC:=aS Tryz.f168
noncomputable def G5:Nat->Code:=lpOf Tryz.f168
theorem V8:aL (aP Tryz.f168)=true:=kr
theorem aKy:FN 168 Tryz.f168 [0,0,0,2] Bz47 G5 aAh false [.tmp 2]:=fN 1 Tryz.func168 V8
noncomputable def DC:SC:=aY Tryz.f168 0
theorem HW:ST G5 0 DC:=sT V8
noncomputable def aCD:SC:=aS Tryz.f180
noncomputable def uD:Nat->Code:=lpOf Tryz.f180
theorem LW:aL (aP Tryz.f180)=true:=kr
theorem aLn:FN 180 Tryz.f180 [] Bz43 uD aCD false [.tmp 2]:=fN 2 Tryz.func180 LW
noncomputable def GD:SC:=aY Tryz.f180 0
theorem MI:ST uD 0 GD:=sT LW
noncomputable def G9:SC:=aY Tryz.f180 1
theorem KD:ST uD 1 G9:=sT LW
noncomputable def aC6:SC:=aS Tryz.f181
noncomputable def tB:Nat->Code:=lpOf Tryz.f181
theorem LO:aL (aP Tryz.f181)=true:=kr
theorem aLl:FN 181 Tryz.f181 [] Bz19 tB aC6 false [.tmp 6]:=fN 2 Tryz.func181 LO
noncomputable def G7:SC:=aY Tryz.f181 0
theorem JX:ST tB 0 G7:=sT LO
noncomputable def GI:SC:=aY Tryz.f181 1
theorem LG:ST tB 1 GI:=sT LO
noncomputable def nD:SC:=aS Tryz.f182
noncomputable def aMu:Nat->Code:=lpOf Tryz.f182
theorem aMr:aL (aP Tryz.f182)=true:=kr
theorem pA:FN 182 Tryz.f182 [] (Z2 (U1 (Z2 (Z1 (U2 (Z32 (Z16 (Z8 ([]))))))))) aMu nD false [.tmp 6]:=fN 1 Tryz.func182 aMr
noncomputable def ZQ:SC:=aS Tryz.f183
noncomputable def GG:Nat->Code:=lpOf Tryz.f183
theorem WA:aL (aP Tryz.f183)=true:=kr
theorem aKz:FN 183 Tryz.f183 [] Bz56 GG ZQ false [.tmp 4]:=fN 2 Tryz.func183 WA
noncomputable def DK:SC:=aY Tryz.f183 0
theorem HS:ST GG 0 DK:=sT WA
noncomputable def aFY:SC:=aS Tryz.f184
noncomputable def rH:Nat->Code:=lpOf Tryz.f184
theorem QD:aL (aP Tryz.f184)=true:=kr
theorem aN1:FN 184 Tryz.f184 [] Bz21 rH aFY false []:=fN 0 Tryz.func184 QD
noncomputable def A6:SC:=aY Tryz.f184 0
theorem z6:ST rH 0 A6:=sT QD
noncomputable def s9:SC:=aY Tryz.f184 1
theorem sZ:ST rH 1 s9:=sT QD
noncomputable def YI:SC:=aS Tryz.f185
noncomputable def GM:Nat->Code:=lpOf Tryz.f185
theorem WI:aL (aP Tryz.f185)=true:=kr
theorem aKT:FN 185 Tryz.f185 [] Bz64 GM YI false [.tmp 4]:=fN 1 Tryz.func185 WI
noncomputable def CX:SC:=aY Tryz.f185 0
theorem HM:ST GM 0 CX:=sT WI
noncomputable def aAm:SC:=aS Tryz.f186
noncomputable def qX:Nat->Code:=lpOf Tryz.f186
theorem GP:aL (aP Tryz.f186)=true:=kr
theorem aKu:FN 186 Tryz.f186 [] Bz24 qX aAm false [.tmp 10]:=fN 2 Tryz.func186 GP
noncomputable def C5:SC:=aY Tryz.f186 0
theorem HR:ST qX 0 C5:=sT GP
noncomputable def oM:SC:=aY Tryz.f186 1
theorem nS:ST qX 1 oM:=sT GP
noncomputable def aDg:SC:=aS Tryz.f188
noncomputable def aSk:Nat->Code:=lpOf Tryz.f188
theorem aSu:aL (aP Tryz.f188)=true:=kr
theorem aIq:FN 188 Tryz.f188 [] ([]) aSk aDg false [.tmp 6]:=fN 1 Tryz.func188 aSu
noncomputable def aNo:SC:=aS Tryz.f189
noncomputable def aRn:Nat->Code:=lpOf Tryz.f189
theorem aRX:aL (aP Tryz.f189)=true:=kr
theorem aS9:FN 189 Tryz.f189 [] ([]) aRn aNo false [.tmp 4]:=fN 1 Tryz.func189 aRX
noncomputable def ZT:SC:=aS Tryz.f193
noncomputable def mH:Nat->Code:=lpOf Tryz.f193
theorem GZ:aL (aP Tryz.f193)=true:=kr
theorem aKC:FN 193 Tryz.f193 [] Bz15 mH ZT false [.tmp 4,.tmp 5]:=fN 2 Tryz.func193 GZ
noncomputable def uR:SC:=aY Tryz.f193 0
theorem wH:ST mH 0 uR:=sT GZ
noncomputable def oA:SC:=aY Tryz.f193 1
theorem nR:ST mH 1 oA:=sT GZ
noncomputable def aD9:SC:=aS Tryz.f199
noncomputable def aAd:Nat->Code:=lpOf Tryz.f199
theorem aIs:aL (aP Tryz.f199)=true:=kr
theorem aJW:FN 199 Tryz.f199 [] Bz38 aAd aD9 false [.tmp 4]:=fN 1 Tryz.func199 aIs
noncomputable def IF:SC:=aY Tryz.f199 0
theorem HA:ST aAd 0 IF:=sT aIs
noncomputable def xZ:SC:=aS Tryz.f200
noncomputable def DH:Nat->Code:=lpOf Tryz.f200
theorem RN:aL (aP Tryz.f200)=true:=kr
theorem DZ:FN 200 Tryz.f200 [] Bz65 DH xZ false [.tmp 2]:=fN 1 Tryz.func200 RN
noncomputable def mN:SC:=aY Tryz.f200 0
theorem mZ:ST DH 0 mN:=sT RN
noncomputable def R2:SC:=aS Tryz.f201
noncomputable def A1:Nat->Code:=lpOf Tryz.f201
theorem PP:aL (aP Tryz.f201)=true:=kr
theorem aGK:FN 201 Tryz.f201 [] (U1 (Z1 (U4 (Z16 ([]))))) A1 R2 false [.tmp 2,.tmp 3]:=fN 1 Tryz.func201 PP
noncomputable def x8:SC:=aY Tryz.f201 0
theorem CL:ST A1 0 x8:=sT PP
noncomputable def pC:SC:=aS Tryz.f202
noncomputable def B3:Nat->Code:=lpOf Tryz.f202
theorem B7:aL (aP Tryz.f202)=true:=kr
theorem B6:FN 202 Tryz.f202 [] ([]) B3 pC false [.tmp 4]:=fN 1 Tryz.func202 B7
noncomputable def qT:SC:=aS Tryz.f203
noncomputable def fH:Nat->Code:=lpOf Tryz.f203
theorem pK:aL (aP Tryz.f203)=true:=kr
theorem GB:FN 203 Tryz.f203 [] Bz48 fH qT false []:=fN 0 Tryz.func203 pK
noncomputable def eV:SC:=aY Tryz.f203 0
theorem gO:ST fH 0 eV:=sT pK
noncomputable def aC9:SC:=aS Tryz.f206
noncomputable def lL:Nat->Code:=lpOf Tryz.f206
theorem BM:aL (aP Tryz.f206)=true:=kr
theorem aM5:FN 206 Tryz.f206 [] Bz8 lL aC9 false [.tmp 8]:=fN 2 Tryz.func206 BM
noncomputable def GY:SC:=aY Tryz.f206 0
theorem MO:ST lL 0 GY:=sT BM
noncomputable def GJ:SC:=aY Tryz.f206 1
theorem JW:ST lL 1 GJ:=sT BM
noncomputable def GN:SC:=aY Tryz.f206 2
theorem J7:ST lL 2 GN:=sT BM
noncomputable def aL5:SC:=aS Tryz.f207
noncomputable def aTc:Nat->Code:=lpOf Tryz.f207
theorem aSC:aL (aP Tryz.f207)=true:=kr
theorem aSN:FN 207 Tryz.f207 [] ([]) aTc aL5 false [.tmp 6]:=fN 1 Tryz.func207 aSC
noncomputable def UV:SC:=aS Tryz.f208
noncomputable def wW:Nat->Code:=lpOf Tryz.f208
theorem PZ:aL (aP Tryz.f208)=true:=kr
theorem aCX:FN 208 Tryz.f208 [] Bz20 wW UV false [.tmp 6]:=fN 1 Tryz.func208 PZ
noncomputable def AM:SC:=aY Tryz.f208 0
theorem zW:ST wW 0 AM:=sT PZ
noncomputable def AW:SC:=aY Tryz.f208 1
theorem BN:ST wW 1 AW:=sT PZ
noncomputable def aCq:SC:=aS Tryz.f209
noncomputable def KM:Nat->Code:=lpOf Tryz.f209
theorem YC:aL (aP Tryz.f209)=true:=kr
theorem aLx:FN 209 Tryz.f209 [] Bz60 KM aCq false [.tmp 4]:=fN 1 Tryz.func209 YC
noncomputable def xQ:SC:=aY Tryz.f209 0
theorem yR:ST KM 0 xQ:=sT YC
noncomputable def IX:SC:=aS Tryz.f215
noncomputable def QL:Nat->Code:=lpOf Tryz.f215
theorem aCv:aL (aP Tryz.f215)=true:=kr
theorem PU:FN 215 Tryz.f215 [] Bz49 QL IX false [.tmp 8]:=fN 1 Tryz.func215 aCv
noncomputable def AV:SC:=aY Tryz.f215 0
theorem BH:ST QL 0 AV:=sT aCv
noncomputable def aIE:SC:=aS Tryz.f217
noncomputable def aP2:Nat->Code:=lpOf Tryz.f217
theorem aQ8:aL (aP Tryz.f217)=true:=kr
theorem aQn:FN 217 Tryz.f217 [] ([]) aP2 aIE false [.tmp 2]:=fN 1 Tryz.func217 aQ8
noncomputable def gY:SC:=aS Tryz.f218
noncomputable def IN:Nat->Code:=lpOf Tryz.f218
theorem H6:aL (aP Tryz.f218)=true:=kr
theorem kP:FN 218 Tryz.f218 [] ([]) IN gY false [.tmp 2]:=fN 1 Tryz.func218 H6
noncomputable def V0:SC:=aS Tryz.f225
noncomputable def aH2:Nat->Code:=lpOf Tryz.f225
theorem aHY:aL (aP Tryz.f225)=true:=kr
theorem aHq:FN 225 Tryz.f225 [] (Z2 (U2 (Z4 (U4 (Z32 (Z32 (Z2 (Z1 ([]))))))))) aH2 V0 false [.tmp 8]:=fN 2 Tryz.func225 aHY
end
end Ev
end Go.Proofs.YthlkcebdfbjdoaaGreatDoor
