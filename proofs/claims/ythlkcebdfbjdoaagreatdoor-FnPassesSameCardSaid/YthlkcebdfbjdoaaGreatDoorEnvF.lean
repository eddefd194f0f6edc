/-
  Each function's code as an equation. Written by a program.
-/
import Derived.Test.YthlkcebdfbjdoaaGreatDoorEnv
set_option linter.unusedSimpArgs false
set_option linter.unusedVariables false
set_option linter.unusedSectionVars false
set_option maxRecDepth 100000
namespace Go.Proofs.YthlkcebdfbjdoaaGreatDoor
namespace Ev
abbrev FN(f:Nat)(fn:Func)(th:List Nat)(lv:List Bool)(lp:Nat->Code)(S:SC)(e:Bool)(rs:List ResultVar):Prop:=∀(L n:Nat) (args:List A) (h:H),aA env L (n+1) f args h=cU env (aA env L n) L h.length th lv lp S (args++List.replicate (fn.ntmps-args.length) (.d .undef)) h (kFin env.P h.length e rs)
theorem fN (mode : Nat) {f : Nat} {fn : Func} {e : Bool} {th : List Nat} {lv : List Bool} {rs : List ResultVar} (hf : env.P.funcs[f]? = some fn) (hd : aL (aO fn) = true) (hp : (env.prim f).isNone = true := by kernel_rfl) (hb : fn.body.isSome = true := by kernel_rfl) (hn : (fn.name == "runtime.NumGoroutine") = false := by kernel_rfl) (hh : env.hint f = ⟨mode, e, th, lv⟩ := by kernel_rfl) (hr : fn.results.toList = rs := by kernel_rfl) : FN f fn th lv (lpOf fn) (aS fn) e rs := fun _ _ _ _ => J8 hp hf hb hn hd hh hr
abbrev ST(lp:Nat->Code)(i:Nat)(S:SC):Prop:=∀(R:Type) (call:a6) (L nf n:Nat) (thaw:List Nat) (live m:List Bool) (s:List A) (h:H) (k:KE R),aT env call L nf thaw live (lp i) m (n+1) s h k=cU env call L nf thaw live lp S s h (aA8 env call L nf thaw live (lp i) m n k)
theorem sT{fn:Func}{i:Nat}(hd:aL (aO fn)=true)(hi:((bT (aO fn))[i]?).isSome=true:=by kernel_rfl):ST (lpOf fn) i (aY fn i):=fun _ _ _ _ _ _ _ _ _ _ _=>aEx hd hi
section
variable{R:Type}{call:a6}{L nf n:Nat}{thaw:List Nat}{live m:List Bool}{s args:List A}{h:H}{k:KE R}
noncomputable def lI:SC:=aS Tryz.f6
noncomputable def aEH:Nat->Code:=lpOf Tryz.f6
theorem aGI:aL (aO Tryz.f6)=true:=kr
theorem mU:FN 6 Tryz.f6 [] ([]) aEH lI false [.tmp 2]:=fN 1 Tryz.func6 aGI
noncomputable def CI:SC:=aS Tryz.f8
noncomputable def TU:Nat->Code:=lpOf Tryz.f8
theorem S0:aL (aO Tryz.f8)=true:=kr
theorem S9:FN 8 Tryz.f8 [] ([]) TU CI false (Tryz.f8.results.toList):=fN 2 Tryz.func8 S0
noncomputable def rV:SC:=aS Tryz.f9
noncomputable def aDH:Nat->Code:=lpOf Tryz.f9
theorem aD9:aL (aO Tryz.f9)=true:=kr
theorem xW:FN 9 Tryz.f9 [] ([]) aDH rV false [.tmp 6]:=fN 1 Tryz.func9 aD9
noncomputable def mH:SC:=aS Tryz.f10
noncomputable def jF:Nat->Code:=lpOf Tryz.f10
theorem uT:aL (aO Tryz.f10)=true:=kr
theorem oG:FN 10 Tryz.f10 [] Bz2 jF mH true [.tmp 4,.tmp 5]:=fN 3 Tryz.func10 uT
noncomputable def sJ:SC:=aY Tryz.f10 0
theorem tF:ST jF 0 sJ:=sT uT
noncomputable def sD:SC:=aY Tryz.f10 1
theorem tP:ST jF 1 sD:=sT uT
noncomputable def AK:SC:=aY Tryz.f10 2
theorem E6:ST jF 2 AK:=sT uT
noncomputable def sG:SC:=aS Tryz.f11
noncomputable def aEj:Nat->Code:=lpOf Tryz.f11
theorem aC7:aL (aO Tryz.f11)=true:=kr
theorem yD:FN 11 Tryz.f11 [] ([]) aEj sG false [.tmp 6]:=fN 1 Tryz.func11 aC7
noncomputable def yY:SC:=aS Tryz.f13
noncomputable def PW:Nat->Code:=lpOf Tryz.f13
theorem QD:aL (aO Tryz.f13)=true:=kr
theorem PG:FN 13 Tryz.f13 [] ([]) PW yY false (Tryz.f13.results.toList):=fN 2 Tryz.func13 QD
noncomputable def yJ:SC:=aS Tryz.f14
noncomputable def aBe:Nat->Code:=lpOf Tryz.f14
theorem aBn:aL (aO Tryz.f14)=true:=kr
theorem HU:FN 14 Tryz.f14 [] ([]) aBe yJ false [.tmp 4]:=fN 1 Tryz.func14 aBn
noncomputable def eX:SC:=aS Tryz.f20
noncomputable def SJ:Nat->Code:=lpOf Tryz.f20
theorem QW:aL (aO Tryz.f20)=true:=kr
theorem gJ:FN 20 Tryz.f20 [] ([]) SJ eX false (Tryz.f20.results.toList):=fN 2 Tryz.func20 QW
noncomputable def lR:SC:=aS Tryz.f21
noncomputable def vZ:Nat->Code:=lpOf Tryz.f21
theorem HQ:aL (aO Tryz.f21)=true:=kr
theorem nR:FN 21 Tryz.f21 [] Bz34 vZ lR false [.tmp 6,.tmp 7]:=fN 1 Tryz.func21 HQ
noncomputable def mR:SC:=aY Tryz.f21 0
theorem oH:ST vZ 0 mR:=sT HQ
noncomputable def sN:SC:=aS Tryz.f22
noncomputable def aCU:Nat->Code:=lpOf Tryz.f22
theorem aDM:aL (aO Tryz.f22)=true:=kr
theorem yE:FN 22 Tryz.f22 [] ([]) aCU sN false [.tmp 4]:=fN 1 Tryz.func22 aDM
noncomputable def eS:SC:=aS Tryz.f23
noncomputable def i7:Nat->Code:=lpOf Tryz.f23
theorem rS:aL (aO Tryz.f23)=true:=kr
theorem fP:FN 23 Tryz.f23 [] Bz10 i7 eS false [.tmp 2]:=fN 1 Tryz.func23 rS
noncomputable def hU:SC:=aY Tryz.f23 0
theorem iZ:ST i7 0 hU:=sT rS
noncomputable def gT:SC:=aY Tryz.f23 1
theorem iX:ST i7 1 gT:=sT rS
noncomputable def VT:SC:=aS Tryz.f24
noncomputable def jC:Nat->Code:=lpOf Tryz.f24
theorem vA:aL (aO Tryz.f24)=true:=kr
theorem aGZ:FN 24 Tryz.f24 (W8 (W4 [2002])) Bz6 jC VT false [.tmp 4]:=fN 2 Tryz.func24 vA
noncomputable def AH:SC:=aY Tryz.f24 0
theorem FR:ST jC 0 AH:=sT vA
noncomputable def z7:SC:=aY Tryz.f24 1
theorem FS:ST jC 1 z7:=sT vA
noncomputable def A7:SC:=aY Tryz.f24 2
theorem EH:ST jC 2 A7:=sT vA
noncomputable def CJ:SC:=aS Tryz.f25
noncomputable def gX:Nat->Code:=lpOf Tryz.f25
theorem qI:aL (aO Tryz.f25)=true:=kr
theorem TN:FN 25 Tryz.f25 [] Bz18 gX CJ true [.tmp 2]:=fN 3 Tryz.func25 qI
noncomputable def oX:SC:=aY Tryz.f25 0
theorem tR:ST gX 0 oX:=sT qI
noncomputable def gK:SC:=aY Tryz.f25 1
theorem gW:ST gX 1 gK:=sT qI
noncomputable def RO:SC:=aS Tryz.f26
noncomputable def AQ:Nat->Code:=lpOf Tryz.f26
theorem OO:aL (aO Tryz.f26)=true:=kr
theorem aEP:FN 26 Tryz.f26 [0,0,0,2] Bz55 AQ RO true [.tmp 2]:=fN 3 Tryz.func26 OO
noncomputable def pS:SC:=aY Tryz.f26 0
theorem rU:ST AQ 0 pS:=sT OO
theorem B1{L n:Nat}{args:List A}{h:H}:aA env L (n+1) 27 args h=DY 60 29 args h:=by
 have:env.prim 27=some (DY 60 29):=kr;simp only[aA,this]
noncomputable def iQ:SC:=aS Tryz.f28
noncomputable def qA:Nat->Code:=lpOf Tryz.f28
theorem pU:aL (aO Tryz.f28)=true:=kr
theorem pX:FN 28 Tryz.f28 [] ([]) qA iQ true [.tmp 2]:=fN 0 Tryz.func28 pU
noncomputable def aAG:SC:=aS Tryz.f29
noncomputable def aKm:Nat->Code:=lpOf Tryz.f29
theorem aKd:aL (aO Tryz.f29)=true:=kr
noncomputable def mF:SC:=aS Tryz.f30
noncomputable def jK:Nat->Code:=lpOf Tryz.f30
theorem uN:aL (aO Tryz.f30)=true:=kr
theorem oM:FN 30 Tryz.f30 [] Bz13 jK mF false [.tmp 4,.tmp 5]:=fN 2 Tryz.func30 uN
noncomputable def sS:SC:=aY Tryz.f30 0
theorem sW:ST jK 0 sS:=sT uN
noncomputable def sR:SC:=aY Tryz.f30 1
theorem sY:ST jK 1 sR:=sT uN
noncomputable def sC:SC:=aY Tryz.f30 2
theorem tI:ST jK 2 sC:=sT uN
noncomputable def lS:SC:=aS Tryz.f31
noncomputable def v8:Nat->Code:=lpOf Tryz.f31
theorem HA:aL (aO Tryz.f31)=true:=kr
theorem nP:FN 31 Tryz.f31 [] Bz35 v8 lS false [.tmp 6,.tmp 7]:=fN 1 Tryz.func31 HA
noncomputable def mX:SC:=aY Tryz.f31 0
theorem o9:ST v8 0 mX:=sT HA
noncomputable def NK:SC:=aS Tryz.f32
noncomputable def aQa:Nat->Code:=lpOf Tryz.f32
theorem aPI:aL (aO Tryz.f32)=true:=kr
theorem UI:FN 32 Tryz.f32 [] ([]) aQa NK false [.tmp 4]:=fN 1 Tryz.func32 aPI
noncomputable def aAQ:SC:=aS Tryz.f33
noncomputable def qQ:Nat->Code:=lpOf Tryz.f33
theorem F5:aL (aO Tryz.f33)=true:=kr
theorem aJZ:FN 33 Tryz.f33 (W4 (W2 (W1 [2]))) Bz5 qQ aAQ false (Tryz.f33.results.toList):=fN 2 Tryz.func33 F5
noncomputable def oB:SC:=aY Tryz.f33 0
theorem nL:ST qQ 0 oB:=sT F5
noncomputable def DK:SC:=aY Tryz.f33 1
theorem HS:ST qQ 1 DK:=sT F5
noncomputable def KB:SC:=aS Tryz.f34
noncomputable def aKh:Nat->Code:=lpOf Tryz.f34
theorem aJL:aL (aO Tryz.f34)=true:=kr
theorem VX:FN 34 Tryz.f34 [] ([]) aKh KB false [.tmp 4,.tmp 5]:=fN 1 Tryz.func34 aJL
noncomputable def P5:SC:=aS Tryz.f35
noncomputable def aLK:Nat->Code:=lpOf Tryz.f35
theorem aK8:aL (aO Tryz.f35)=true:=kr
theorem aAn:FN 35 Tryz.f35 [] ([]) aLK P5 true [.tmp 2]:=fN 2 Tryz.func35 aK8
noncomputable def WE:SC:=aS Tryz.f37
noncomputable def aHD:Nat->Code:=lpOf Tryz.f37
theorem aG2:aL (aO Tryz.f37)=true:=kr
theorem aG8:FN 37 Tryz.f37 [] ([]) aHD WE false [.tmp 4]:=fN 0 Tryz.func37 aG2
noncomputable def eP:SC:=aS Tryz.f40
noncomputable def rQ:Nat->Code:=lpOf Tryz.f40
theorem CL:aL (aO Tryz.f40)=true:=kr
theorem fL:FN 40 Tryz.f40 [] Bz61 rQ eP false [.tmp 2]:=fN 1 Tryz.func40 CL
noncomputable def kK:SC:=aY Tryz.f40 0
theorem mD:ST rQ 0 kK:=sT CL
noncomputable def jO:SC:=aS Tryz.f45
noncomputable def aMS:Nat->Code:=lpOf Tryz.f45
theorem aLY:aL (aO Tryz.f45)=true:=kr
theorem jQ:FN 45 Tryz.f45 [] ([]) aMS jO false (Tryz.f45.results.toList):=fN 0 Tryz.func45 aLY
noncomputable def eJ:SC:=aS Tryz.f46
noncomputable def aKb:Nat->Code:=lpOf Tryz.f46
theorem aJM:aL (aO Tryz.f46)=true:=kr
theorem eT:FN 46 Tryz.f46 (W32 (W32 (W16 (W8 (W4 (W1 [1002])))))) ([]) aKb eJ false (Tryz.f46.results.toList):=fN 0 Tryz.func46 aJM
noncomputable def oO:SC:=aS Tryz.f47
noncomputable def aFE:Nat->Code:=lpOf Tryz.f47
theorem aFZ:aL (aO Tryz.f47)=true:=kr
theorem r5:FN 47 Tryz.f47 [] ([]) aFE oO false [.tmp 4]:=fN 0 Tryz.func47 aFZ
noncomputable def SQ:SC:=aS Tryz.f48
noncomputable def aN2:Nat->Code:=lpOf Tryz.f48
theorem aM6:aL (aO Tryz.f48)=true:=kr
theorem aCd:FN 48 Tryz.f48 [] ([]) aN2 SQ false (Tryz.f48.results.toList):=fN 0 Tryz.func48 aM6
noncomputable def oL:SC:=aS Tryz.f49
noncomputable def P4:Nat->Code:=lpOf Tryz.f49
theorem QB:aL (aO Tryz.f49)=true:=kr
theorem wU:FN 49 Tryz.f49 [] ([]) P4 oL false (Tryz.f49.results.toList):=fN 2 Tryz.func49 QB
noncomputable def aAD:SC:=aS Tryz.f50
noncomputable def aJT:Nat->Code:=lpOf Tryz.f50
theorem aJU:aL (aO Tryz.f50)=true:=kr
theorem aJ2:FN 50 Tryz.f50 [] ([]) aJT aAD false [.tmp 2]:=fN 0 Tryz.func50 aJU
noncomputable def N5:SC:=aS Tryz.f51
noncomputable def aDE:Nat->Code:=lpOf Tryz.f51
theorem aDf:aL (aO Tryz.f51)=true:=kr
theorem aC8:FN 51 Tryz.f51 [] ([]) aDE N5 false [.tmp 4]:=fN 1 Tryz.func51 aDf
noncomputable def Q9:SC:=aS Tryz.f52
noncomputable def aGu:Nat->Code:=lpOf Tryz.f52
theorem aGH:aL (aO Tryz.f52)=true:=kr
theorem aE1:FN 52 Tryz.f52 [] ([]) aGu Q9 false [.tmp 2]:=fN 1 Tryz.func52 aGH
noncomputable def VC:SC:=aS Tryz.f53
noncomputable def uI:Nat->Code:=lpOf Tryz.f53
theorem Q4:aL (aO Tryz.f53)=true:=kr
theorem aHu:FN 53 Tryz.f53 [0,0,0,2] Bz30 uI VC false [.tmp 2]:=fN 2 Tryz.func53 Q4
noncomputable def sI:SC:=aY Tryz.f53 0
theorem t7:ST uI 0 sI:=sT Q4
noncomputable def QL:SC:=aS Tryz.f54
noncomputable def aE8:Nat->Code:=lpOf Tryz.f54
theorem aFR:aL (aO Tryz.f54)=true:=kr
theorem aEJ:FN 54 Tryz.f54 [] ([]) aE8 QL false [.tmp 2]:=fN 1 Tryz.func54 aFR
noncomputable def gS:SC:=aS Tryz.f55
noncomputable def aEn:Nat->Code:=lpOf Tryz.f55
theorem aCY:aL (aO Tryz.f55)=true:=kr
theorem jD:FN 55 Tryz.f55 [] ([]) aEn gS false [.tmp 6,.tmp 7]:=fN 1 Tryz.func55 aCY
noncomputable def mA:SC:=aS Tryz.f56
noncomputable def yB:Nat->Code:=lpOf Tryz.f56
theorem yG:aL (aO Tryz.f56)=true:=kr
theorem x8:FN 56 Tryz.f56 [] ([]) yB mA false [.tmp 4]:=fN 1 Tryz.func56 yG
noncomputable def C4:SC:=aS Tryz.f57
noncomputable def aGn:Nat->Code:=lpOf Tryz.f57
theorem aGf:aL (aO Tryz.f57)=true:=kr
theorem NR:FN 57 Tryz.f57 [] ([]) aGn C4 false [.tmp 4,.tmp 5]:=fN 1 Tryz.func57 aGf
theorem vY{L n:Nat}{args:List A}{h:H}:aA env L (n+1) 58 args h=MK 29 args h:=by
 have:env.prim 58=some (MK 29):=kr;simp only[aA,this]
noncomputable def KJ:SC:=aS Tryz.f61
noncomputable def qP:Nat->Code:=lpOf Tryz.f61
theorem V2:aL (aO Tryz.f61)=true:=kr
noncomputable def uY:SC:=aY Tryz.f61 0
noncomputable def nS:SC:=aS Tryz.f62
noncomputable def XI:Nat->Code:=lpOf Tryz.f62
theorem Z3:aL (aO Tryz.f62)=true:=kr
noncomputable def kS:SC:=aS Tryz.f63
noncomputable def RK:Nat->Code:=lpOf Tryz.f63
theorem RH:aL (aO Tryz.f63)=true:=kr
noncomputable def DX:SC:=aS Tryz.f64
noncomputable def zS:Nat->Code:=lpOf Tryz.f64
theorem OS:aL (aO Tryz.f64)=true:=kr
theorem OL:FN 64 Tryz.f64 [] Bz66 zS DX false [.tmp 2]:=fN 2 Tryz.func64 OS
noncomputable def yC:SC:=aY Tryz.f64 0
theorem B7:ST zS 0 yC:=sT OS
noncomputable def rR:SC:=aS Tryz.f65
noncomputable def iC:Nat->Code:=lpOf Tryz.f65
theorem pO:aL (aO Tryz.f65)=true:=kr
theorem A5:FN 65 Tryz.f65 [] Bz42 iC rR false [.tmp 2]:=fN 2 Tryz.func65 pO
noncomputable def oU:SC:=aY Tryz.f65 0
theorem uG:ST iC 0 oU:=sT pO
noncomputable def gB:SC:=aY Tryz.f65 1
theorem iJ:ST iC 1 gB:=sT pO
noncomputable def VR:SC:=aS Tryz.f66
noncomputable def lF:Nat->Code:=lpOf Tryz.f66
theorem DP:aL (aO Tryz.f66)=true:=kr
theorem aHl:FN 66 Tryz.f66 [] Bz14 lF VR false [.tmp 4]:=fN 2 Tryz.func66 DP
noncomputable def sK:SC:=aY Tryz.f66 0
theorem uC:ST lF 0 sK:=sT DP
noncomputable def AA:SC:=aY Tryz.f66 1
theorem FV:ST lF 1 AA:=sT DP
noncomputable def IQ:SC:=aS Tryz.f67
noncomputable def P0:Nat->Code:=lpOf Tryz.f67
theorem aCf:aL (aO Tryz.f67)=true:=kr
theorem PU:FN 67 Tryz.f67 [] Bz62 P0 IQ false [.tmp 4]:=fN 0 Tryz.func67 aCf
noncomputable def JC:SC:=aY Tryz.f67 0
theorem NT:ST P0 0 JC:=sT aCf
noncomputable def N9:SC:=aS Tryz.f68
noncomputable def aDD:Nat->Code:=lpOf Tryz.f68
theorem aCW:aL (aO Tryz.f68)=true:=kr
theorem aCV:FN 68 Tryz.f68 [] ([]) aDD N9 false [.tmp 4]:=fN 1 Tryz.func68 aCW
noncomputable def WR:SC:=aS Tryz.f69
noncomputable def eU:Nat->Code:=lpOf Tryz.f69
theorem o6:aL (aO Tryz.f69)=true:=kr
theorem aHe:FN 69 Tryz.f69 [] Bz0 eU WR false [.tmp 2]:=fN 2 Tryz.func69 o6
noncomputable def sB:SC:=aY Tryz.f69 0
theorem tU:ST eU 0 sB:=sT o6
noncomputable def BA:SC:=aY Tryz.f69 1
theorem FC:ST eU 1 BA:=sT o6
noncomputable def rW:SC:=aY Tryz.f69 2
theorem s8:ST eU 2 rW:=sT o6
noncomputable def zZ:SC:=aY Tryz.f69 3
theorem E8:ST eU 3 zZ:=sT o6
noncomputable def aMZ:SC:=aS Tryz.f70
noncomputable def aAs:Nat->Code:=lpOf Tryz.f70
theorem aJf:aL (aO Tryz.f70)=true:=kr
theorem aQN:FN 70 Tryz.f70 [] Bz26 aAs aMZ false (Tryz.f70.results.toList):=fN 2 Tryz.func70 aJf
noncomputable def H2:SC:=aY Tryz.f70 0
theorem GJ:ST aAs 0 H2:=sT aJf
noncomputable def OI:SC:=aS Tryz.f71
noncomputable def aDY:Nat->Code:=lpOf Tryz.f71
theorem aDx:aL (aO Tryz.f71)=true:=kr
theorem aDL:FN 71 Tryz.f71 [] ([]) aDY OI false [.tmp 10,.tmp 11]:=fN 1 Tryz.func71 aDx
noncomputable def NF:SC:=aS Tryz.f72
noncomputable def aDv:Nat->Code:=lpOf Tryz.f72
theorem aD2:aL (aO Tryz.f72)=true:=kr
theorem aDc:FN 72 Tryz.f72 [] ([]) aDv NF false [.tmp 4]:=fN 0 Tryz.func72 aD2
noncomputable def aAF:SC:=aS Tryz.f74
noncomputable def aJX:Nat->Code:=lpOf Tryz.f74
theorem aKf:aL (aO Tryz.f74)=true:=kr
theorem aJP:FN 74 Tryz.f74 [] ([]) aJX aAF false [.tmp 4]:=fN 0 Tryz.func74 aKf
noncomputable def SK:SC:=aS Tryz.f80
noncomputable def aGj:Nat->Code:=lpOf Tryz.f80
theorem aGJ:aL (aO Tryz.f80)=true:=kr
theorem aFA:FN 80 Tryz.f80 [] ([]) aGj SK false [.tmp 2]:=fN 1 Tryz.func80 aGJ
noncomputable def OA:SC:=aS Tryz.f81
noncomputable def S2:Nat->Code:=lpOf Tryz.f81
theorem aFd:aL (aO Tryz.f81)=true:=kr
theorem TH:FN 81 Tryz.f81 [] Bz39 S2 OA false [.tmp 6]:=fN 1 Tryz.func81 aFd
noncomputable def wZ:SC:=aY Tryz.f81 0
theorem uK:ST S2 0 wZ:=sT aFd
noncomputable def WO:SC:=aS Tryz.f82
noncomputable def CY:Nat->Code:=lpOf Tryz.f82
theorem RQ:aL (aO Tryz.f82)=true:=kr
theorem aHm:FN 82 Tryz.f82 [] Bz58 CY WO false [.tmp 2]:=fN 2 Tryz.func82 RQ
noncomputable def rZ:SC:=aY Tryz.f82 0
theorem tQ:ST CY 0 rZ:=sT RQ
noncomputable def aFx:SC:=aS Tryz.f91
noncomputable def aNw:Nat->Code:=lpOf Tryz.f91
theorem aNK:aL (aO Tryz.f91)=true:=kr
theorem aN1:FN 91 Tryz.f91 [] ([]) aNw aFx false [.tmp 2]:=fN 1 Tryz.func91 aNK
noncomputable def dA:SC:=aS Tryz.f92
noncomputable def AD:Nat->Code:=lpOf Tryz.f92
theorem aAE:aL (aO Tryz.f92)=true:=kr
theorem cV:FN 92 Tryz.f92 (W32 (W32 (W16 (W2 (W1 [1002,0,0,0,0,0,0,0,0,0,0,0,0,0,0,0,0,0,0,0,0,0,1002]))))) Bz22 AD dA false (Tryz.f92.results.toList):=fN 0 Tryz.func92 aAE
noncomputable def xR:SC:=aY Tryz.f92 0
theorem x5:ST AD 0 xR:=sT aAE
noncomputable def aJG:SC:=aS Tryz.f93
noncomputable def H6:Nat->Code:=lpOf Tryz.f93
theorem aGB:aL (aO Tryz.f93)=true:=kr
theorem aP8:FN 93 Tryz.f93 [] Bz25 H6 aJG false (Tryz.f93.results.toList):=fN 0 Tryz.func93 aGB
noncomputable def EB:SC:=aY Tryz.f93 0
theorem C6:ST H6 0 EB:=sT aGB
noncomputable def XU:SC:=aS Tryz.f94
noncomputable def j9:Nat->Code:=lpOf Tryz.f94
theorem GP:aL (aO Tryz.f94)=true:=kr
theorem aKk:FN 94 Tryz.f94 (W32 (W4 (W1 [1002]))) Bz7 j9 XU true (Tryz.f94.results.toList):=fN 0 Tryz.func94 GP
noncomputable def u6:SC:=aY Tryz.f94 0
theorem wB:ST j9 0 u6:=sT GP
noncomputable def oA:SC:=aY Tryz.f94 1
theorem nQ:ST j9 1 oA:=sT GP
noncomputable def US:SC:=aS Tryz.f95
noncomputable def rH:Nat->Code:=lpOf Tryz.f95
theorem aCQ:aL (aO Tryz.f95)=true:=kr
theorem aB9:FN 95 Tryz.f95 (W16 (W8 (W4 [1002]))) Bz16 rH US true (Tryz.f95.results.toList):=fN 2 Tryz.func95 aCQ
noncomputable def sX:SC:=aY Tryz.f95 0
theorem sE:ST rH 0 sX:=sT aCQ
noncomputable def TJ:SC:=aS Tryz.f97
noncomputable def aNc:Nat->Code:=lpOf Tryz.f97
theorem aNG:aL (aO Tryz.f97)=true:=kr
theorem aBM:FN 97 Tryz.f97 [] ([]) aNc TJ false (Tryz.f97.results.toList):=fN 0 Tryz.func97 aNG
noncomputable def WI:SC:=aS Tryz.f98
noncomputable def nZ:Nat->Code:=lpOf Tryz.f98
theorem CX:aL (aO Tryz.f98)=true:=kr
theorem aHG:FN 98 Tryz.f98 [] Bz33 nZ WI false (Tryz.f98.results.toList):=fN 2 Tryz.func98 CX
noncomputable def sO:SC:=aY Tryz.f98 0
theorem uA:ST nZ 0 sO:=sT CX
noncomputable def zR:SC:=aY Tryz.f98 1
theorem F3:ST nZ 1 zR:=sT CX
noncomputable def vE:SC:=aS Tryz.f99
noncomputable def z8:Nat->Code:=lpOf Tryz.f99
theorem NQ:aL (aO Tryz.f99)=true:=kr
theorem AC:FN 99 Tryz.f99 [] Bz37 z8 vE false [.tmp 4]:=fN 1 Tryz.func99 NQ
noncomputable def yH:SC:=aY Tryz.f99 0
theorem CA:ST z8 0 yH:=sT NQ
noncomputable def aOT:SC:=aS Tryz.f100
noncomputable def aSN:Nat->Code:=lpOf Tryz.f100
theorem aTz:aL (aO Tryz.f100)=true:=kr
theorem aUe:FN 100 Tryz.f100 [] ([]) aSN aOT false [.tmp 4]:=fN 1 Tryz.func100 aTz
noncomputable def EU:SC:=aS Tryz.f101
noncomputable def WT:Nat->Code:=lpOf Tryz.f101
theorem W0:aL (aO Tryz.f101)=true:=kr
theorem WV:FN 101 Tryz.f101 [] ([]) WT EU false [.tmp 4]:=fN 0 Tryz.func101 W0
noncomputable def jI:SC:=aS Tryz.f102
noncomputable def iV:Nat->Code:=lpOf Tryz.f102
theorem nJ:aL (aO Tryz.f102)=true:=kr
theorem nG:FN 102 Tryz.f102 [] Bz59 iV jI false [.tmp 4]:=fN 1 Tryz.func102 nJ
noncomputable def eH:SC:=aY Tryz.f102 0
theorem fR:ST iV 0 eH:=sT nJ
noncomputable def V8:SC:=aS Tryz.f103
noncomputable def aHJ:Nat->Code:=lpOf Tryz.f103
theorem aGY:aL (aO Tryz.f103)=true:=kr
theorem aHw:FN 103 Tryz.f103 [] ([]) aHJ V8 false [.tmp 4,.tmp 5]:=fN 1 Tryz.func103 aGY
noncomputable def wE:SC:=aS Tryz.f104
noncomputable def aAa:Nat->Code:=lpOf Tryz.f104
theorem ZQ:aL (aO Tryz.f104)=true:=kr
theorem F1:FN 104 Tryz.f104 [] ([]) aAa wE false [.tmp 3]:=fN 0 Tryz.func104 ZQ
noncomputable def PA:SC:=aS Tryz.f108
noncomputable def aEa:Nat->Code:=lpOf Tryz.f108
theorem aC2:aL (aO Tryz.f108)=true:=kr
noncomputable def EW:SC:=aS Tryz.f109
noncomputable def WW:Nat->Code:=lpOf Tryz.f109
theorem WX:aL (aO Tryz.f109)=true:=kr
noncomputable def aFG:SC:=aS Tryz.f110
noncomputable def xC:Nat->Code:=lpOf Tryz.f110
theorem PN:aL (aO Tryz.f110)=true:=kr
theorem aNA:FN 110 Tryz.f110 [] Bz23 xC aFG false (Tryz.f110.results.toList):=fN 2 Tryz.func110 PN
noncomputable def BC:SC:=aY Tryz.f110 0
theorem A8:ST xC 0 BC:=sT PN
noncomputable def JK:SC:=aY Tryz.f110 1
theorem N6:ST xC 1 JK:=sT PN
noncomputable def uU:SC:=aS Tryz.f111
noncomputable def aFI:Nat->Code:=lpOf Tryz.f111
theorem aE9:aL (aO Tryz.f111)=true:=kr
theorem BB:FN 111 Tryz.f111 [] ([]) aFI uU false [.tmp 4,.tmp 5]:=fN 1 Tryz.func111 aE9
noncomputable def mJ:SC:=aS Tryz.f112
noncomputable def aDd:Nat->Code:=lpOf Tryz.f112
theorem aDF:aL (aO Tryz.f112)=true:=kr
theorem p8:FN 112 Tryz.f112 [] ([]) aDd mJ false [.tmp 6,.tmp 7]:=fN 1 Tryz.func112 aDF
noncomputable def Y0:SC:=aS Tryz.f113
noncomputable def U7:Nat->Code:=lpOf Tryz.f113
theorem aFg:aL (aO Tryz.f113)=true:=kr
theorem aGe:FN 113 Tryz.f113 [] Bz38 U7 Y0 false [.tmp 4]:=fN 1 Tryz.func113 aFg
noncomputable def D7:SC:=aY Tryz.f113 0
theorem DM:ST U7 0 D7:=sT aFg
noncomputable def ZO:SC:=aS Tryz.f114
noncomputable def F4:Nat->Code:=lpOf Tryz.f114
theorem V4:aL (aO Tryz.f114)=true:=kr
theorem aKj:FN 114 Tryz.f114 [] Bz63 F4 ZO false [.tmp 4]:=fN 1 Tryz.func114 V4
noncomputable def oV:SC:=aY Tryz.f114 0
theorem nT:ST F4 0 oV:=sT V4
noncomputable def QN:SC:=aS Tryz.f115
noncomputable def aFM:Nat->Code:=lpOf Tryz.f115
theorem aFf:aL (aO Tryz.f115)=true:=kr
theorem aFl:FN 115 Tryz.f115 [] ([]) aFM QN false [.tmp 4]:=fN 1 Tryz.func115 aFf
noncomputable def R7:SC:=aS Tryz.f116
noncomputable def aFQ:Nat->Code:=lpOf Tryz.f116
theorem aFc:aL (aO Tryz.f116)=true:=kr
theorem aFP:FN 116 Tryz.f116 [] ([]) aFQ R7 false [.tmp 2]:=fN 1 Tryz.func116 aFc
noncomputable def aCy:SC:=aS Tryz.f117
noncomputable def lX:Nat->Code:=lpOf Tryz.f117
theorem BG:aL (aO Tryz.f117)=true:=kr
theorem aMd:FN 117 Tryz.f117 [] Bz4 lX aCy false [.tmp 2]:=fN 2 Tryz.func117 BG
noncomputable def GL:SC:=aY Tryz.f117 0
theorem LM:ST lX 0 GL:=sT BG
noncomputable def GO:SC:=aY Tryz.f117 1
theorem KZ:ST lX 1 GO:=sT BG
noncomputable def GF:SC:=aY Tryz.f117 2
theorem KX:ST lX 2 GF:=sT BG
noncomputable def JF:SC:=aS Tryz.f118
noncomputable def iO:Nat->Code:=lpOf Tryz.f118
theorem vW:aL (aO Tryz.f118)=true:=kr
theorem aBD:FN 118 Tryz.f118 (W8 (W4 (W1 [2,0,2]))) Bz9 iO JF false [.tmp 8,.tmp 9,.tmp 10]:=fN 2 Tryz.func118 vW
noncomputable def sZ:SC:=aY Tryz.f118 0
theorem yX:ST iO 0 sZ:=sT vW
noncomputable def mI:SC:=aY Tryz.f118 1
theorem oE:ST iO 1 mI:=sT vW
noncomputable def aB0:SC:=aS Tryz.f119
noncomputable def aMT:Nat->Code:=lpOf Tryz.f119
theorem aKR:aL (aO Tryz.f119)=true:=kr
theorem aM5:FN 119 Tryz.f119 [] ([]) aMT aB0 false [.tmp 5]:=fN 0 Tryz.func119 aKR
noncomputable def E7:SC:=aS Tryz.f120
noncomputable def XH:Nat->Code:=lpOf Tryz.f120
theorem XC:aL (aO Tryz.f120)=true:=kr
theorem XA:FN 120 Tryz.f120 [] ([]) XH E7 false [.tmp 9]:=fN 0 Tryz.func120 XC
noncomputable def xH:SC:=aS Tryz.f121
noncomputable def jB:Nat->Code:=lpOf Tryz.f121
theorem u4:aL (aO Tryz.f121)=true:=kr
theorem CN:FN 121 Tryz.f121 (W16 (W2 [2])) Bz3 jB xH false [.tmp 10,.tmp 11]:=fN 1 Tryz.func121 u4
noncomputable def mY:SC:=aY Tryz.f121 0
theorem m4:ST jB 0 mY:=sT u4
noncomputable def sH:SC:=aY Tryz.f121 1
theorem t8:ST jB 1 sH:=sT u4
noncomputable def BV:SC:=aY Tryz.f121 2
theorem FL:ST jB 2 BV:=sT u4
noncomputable def FT:SC:=aS Tryz.f122
noncomputable def XE:Nat->Code:=lpOf Tryz.f122
theorem W3:aL (aO Tryz.f122)=true:=kr
theorem W6:FN 122 Tryz.f122 [] ([]) XE FT false [.tmp 6]:=fN 0 Tryz.func122 W3
noncomputable def XM:SC:=aS Tryz.f129
noncomputable def aKc:Nat->Code:=lpOf Tryz.f129
theorem aJ9:aL (aO Tryz.f129)=true:=kr
theorem aJ6:FN 129 Tryz.f129 [] ([]) aKc XM false [.tmp 4]:=fN 1 Tryz.func129 aJ9
noncomputable def aH2:SC:=aS Tryz.f137
noncomputable def aQi:Nat->Code:=lpOf Tryz.f137
theorem aPF:aL (aO Tryz.f137)=true:=kr
theorem aPA:FN 137 Tryz.f137 [] ([]) aQi aH2 false [.tmp 4]:=fN 1 Tryz.func137 aPF
noncomputable def D9:SC:=aS Tryz.f139
noncomputable def d8:Nat->Code:=lpOf Tryz.f139
theorem tW:aL (aO Tryz.f139)=true:=kr
theorem LY:FN 139 Tryz.f139 [] Bz1 d8 D9 false [.tmp 2,.tmp 3]:=fN 1 Tryz.func139 tW
noncomputable def GM:SC:=aY Tryz.f139 0
theorem LT:ST d8 0 GM:=sT tW
noncomputable def xI:SC:=aY Tryz.f139 1
theorem yA:ST d8 1 xI:=sT tW
noncomputable def qM:SC:=aY Tryz.f139 2
theorem qE:ST d8 2 qM:=sT tW
noncomputable def rA:SC:=aY Tryz.f139 3
theorem qG:ST d8 3 rA:=sT tW
noncomputable def aEY:SC:=aS Tryz.f146
noncomputable def rB:Nat->Code:=lpOf Tryz.f146
theorem PR:aL (aO Tryz.f146)=true:=kr
theorem aNS:FN 146 Tryz.f146 [] Bz12 rB aEY false (Tryz.f146.results.toList):=fN 0 Tryz.func146 PR
noncomputable def J7:SC:=aY Tryz.f146 0
theorem OD:ST rB 0 J7:=sT PR
noncomputable def KY:SC:=aY Tryz.f146 1
theorem OU:ST rB 1 KY:=sT PR
noncomputable def VW:SC:=aS Tryz.f147
noncomputable def oK:Nat->Code:=lpOf Tryz.f147
theorem DG:aL (aO Tryz.f147)=true:=kr
theorem aG3:FN 147 Tryz.f147 [] Bz29 oK VW false [.tmp 2,.tmp 3]:=fN 2 Tryz.func147 DG
noncomputable def rX:SC:=aY Tryz.f147 0
theorem s7:ST oK 0 rX:=sT DG
noncomputable def AE:SC:=aY Tryz.f147 1
theorem EM:ST oK 1 AE:=sT DG
noncomputable def aBY:SC:=aS Tryz.f148
noncomputable def KH:Nat->Code:=lpOf Tryz.f148
theorem aAL:aL (aO Tryz.f148)=true:=kr
theorem aKT:FN 148 Tryz.f148 [] Bz69 KH aBY false [.tmp 4]:=fN 1 Tryz.func148 aAL
noncomputable def GV:SC:=aY Tryz.f148 0
theorem JD:ST KH 0 GV:=sT aAL
noncomputable def nX:SC:=aS Tryz.f149
noncomputable def AL:Nat->Code:=lpOf Tryz.f149
theorem MY:aL (aO Tryz.f149)=true:=kr
theorem sV:FN 149 Tryz.f149 [] Bz52 AL nX false [.tmp 4]:=fN 1 Tryz.func149 MY
noncomputable def pV:SC:=aY Tryz.f149 0
theorem rM:ST AL 0 pV:=sT MY
noncomputable def MM:SC:=aS Tryz.f150
noncomputable def aBq:Nat->Code:=lpOf Tryz.f150
theorem aBH:aL (aO Tryz.f150)=true:=kr
theorem aBp:FN 150 Tryz.f150 [] ([]) aBq MM false [.tmp 7]:=fN 0 Tryz.func150 aBH
noncomputable def aCA:SC:=aS Tryz.f161
noncomputable def oQ:Nat->Code:=lpOf Tryz.f161
theorem KP:aL (aO Tryz.f161)=true:=kr
theorem aKN:FN 161 Tryz.f161 [] Bz36 oQ aCA false [.tmp 2]:=fN 2 Tryz.func161 KP
noncomputable def F9:SC:=aY Tryz.f161 0
theorem L4:ST oQ 0 F9:=sT KP
noncomputable def xL:SC:=aY Tryz.f161 1
theorem xX:ST oQ 1 xL:=sT KP
noncomputable def ED:SC:=aS Tryz.f162
noncomputable def aL5:Nat->Code:=lpOf Tryz.f162
theorem aLO:aL (aO Tryz.f162)=true:=kr
theorem J2:FN 162 Tryz.f162 [] ([]) aL5 ED false [.tmp 4]:=fN 1 Tryz.func162 aLO
noncomputable def uJ:SC:=aS Tryz.f163
noncomputable def aFw:Nat->Code:=lpOf Tryz.f163
theorem aF6:aL (aO Tryz.f163)=true:=kr
theorem AB:FN 163 Tryz.f163 [] ([]) aFw uJ false [.tmp 4]:=fN 1 Tryz.func163 aF6
noncomputable def R6:SC:=aS Tryz.f164
noncomputable def aFi:Nat->Code:=lpOf Tryz.f164
theorem aEt:aL (aO Tryz.f164)=true:=kr
theorem aE5:FN 164 Tryz.f164 [] ([]) aFi R6 false [.tmp 4]:=fN 1 Tryz.func164 aEt
noncomputable def aIH:SC:=aS Tryz.f165
noncomputable def TT:Nat->Code:=lpOf Tryz.f165
theorem aEU:aL (aO Tryz.f165)=true:=kr
theorem aQq:FN 165 Tryz.f165 [] Bz53 TT aIH false [.tmp 6]:=fN 1 Tryz.func165 aEU
noncomputable def PJ:SC:=aY Tryz.f165 0
theorem Q2:ST TT 0 PJ:=sT aEU
noncomputable def vJ:SC:=aS Tryz.f166
noncomputable def JQ:Nat->Code:=lpOf Tryz.f166
theorem KK:aL (aO Tryz.f166)=true:=kr
theorem LV:FN 166 Tryz.f166 [] ([]) JQ vJ false [.tmp 2]:=fN 1 Tryz.func166 KK
noncomputable def p9:SC:=aS Tryz.f167
noncomputable def nO:Nat->Code:=lpOf Tryz.f167
theorem G6:aL (aO Tryz.f167)=true:=kr
theorem vX:FN 167 Tryz.f167 (W8 (W2 [2])) Bz11 nO p9 false [.tmp 9]:=fN 0 Tryz.func167 G6
noncomputable def cK:SC:=aY Tryz.f167 0
theorem cG:ST nO 0 cK:=sT G6
noncomputable def YJ:SC:=aS Tryz.f168
noncomputable def GK:Nat->Code:=lpOf Tryz.f168
theorem VO:aL (aO Tryz.f168)=true:=kr
theorem aJY:FN 168 Tryz.f168 [0,0,0,2] Bz47 GK YJ false [.tmp 2]:=fN 1 Tryz.func168 VO
noncomputable def CP:SC:=aY Tryz.f168 0
theorem HE:ST GK 0 CP:=sT VO
noncomputable def aBX:SC:=aS Tryz.f180
noncomputable def tJ:Nat->Code:=lpOf Tryz.f180
theorem MA:aL (aO Tryz.f180)=true:=kr
theorem aKD:FN 180 Tryz.f180 [] Bz43 tJ aBX false [.tmp 2]:=fN 2 Tryz.func180 MA
noncomputable def GN:SC:=aY Tryz.f180 0
theorem KR:ST tJ 0 GN:=sT MA
noncomputable def G0:SC:=aY Tryz.f180 1
theorem LI:ST tJ 1 G0:=sT MA
noncomputable def aBT:SC:=aS Tryz.f181
noncomputable def t6:Nat->Code:=lpOf Tryz.f181
theorem KG:aL (aO Tryz.f181)=true:=kr
theorem aLf:FN 181 Tryz.f181 [] Bz19 t6 aBT false [.tmp 6]:=fN 2 Tryz.func181 KG
noncomputable def G4:SC:=aY Tryz.f181 0
theorem MF:ST t6 0 G4:=sT KG
noncomputable def GX:SC:=aY Tryz.f181 1
theorem KM:ST t6 1 GX:=sT KG
noncomputable def nE:SC:=aS Tryz.f182
noncomputable def aL3:Nat->Code:=lpOf Tryz.f182
theorem aK2:aL (aO Tryz.f182)=true:=kr
theorem oC:FN 182 Tryz.f182 [] (Z2 (U1 (Z2 (Z1 (U2 (Z32 (Z16 (Z8 ([]))))))))) aL3 nE false [.tmp 6]:=fN 1 Tryz.func182 aK2
noncomputable def YI:SC:=aS Tryz.f183
noncomputable def GC:Nat->Code:=lpOf Tryz.f183
theorem V6:aL (aO Tryz.f183)=true:=kr
theorem aJQ:FN 183 Tryz.f183 [] Bz56 GC YI false [.tmp 4]:=fN 2 Tryz.func183 V6
noncomputable def DE:SC:=aY Tryz.f183 0
theorem HK:ST GC 0 DE:=sT V6
noncomputable def aGp:SC:=aS Tryz.f184
noncomputable def rD:Nat->Code:=lpOf Tryz.f184
theorem PM:aL (aO Tryz.f184)=true:=kr
theorem aNs:FN 184 Tryz.f184 [] Bz21 rD aGp false []:=fN 0 Tryz.func184 PM
noncomputable def zW:SC:=aY Tryz.f184 0
theorem BW:ST rD 0 zW:=sT PM
noncomputable def tY:SC:=aY Tryz.f184 1
theorem sM:ST rD 1 tY:=sT PM
noncomputable def ZZ:SC:=aS Tryz.f185
noncomputable def GZ:Nat->Code:=lpOf Tryz.f185
theorem VB:aL (aO Tryz.f185)=true:=kr
theorem aJK:FN 185 Tryz.f185 [] Bz64 GZ ZZ false [.tmp 4]:=fN 1 Tryz.func185 VB
noncomputable def CQ:SC:=aY Tryz.f185 0
theorem G8:ST GZ 0 CQ:=sT VB
noncomputable def aAg:SC:=aS Tryz.f186
noncomputable def qU:Nat->Code:=lpOf Tryz.f186
theorem GA:aL (aO Tryz.f186)=true:=kr
theorem aJW:FN 186 Tryz.f186 [] Bz24 qU aAg false [.tmp 10]:=fN 2 Tryz.func186 GA
noncomputable def DL:SC:=aY Tryz.f186 0
theorem HF:ST qU 0 DL:=sT GA
noncomputable def oJ:SC:=aY Tryz.f186 1
theorem nN:ST qU 1 oJ:=sT GA
noncomputable def aDB:SC:=aS Tryz.f188
noncomputable def aRw:Nat->Code:=lpOf Tryz.f188
theorem aRm:aL (aO Tryz.f188)=true:=kr
theorem aI4:FN 188 Tryz.f188 [] ([]) aRw aDB false [.tmp 6]:=fN 1 Tryz.func188 aRm
noncomputable def aL4:SC:=aS Tryz.f189
noncomputable def aSh:Nat->Code:=lpOf Tryz.f189
theorem aQR:aL (aO Tryz.f189)=true:=kr
theorem aQP:FN 189 Tryz.f189 [] ([]) aSh aL4 false [.tmp 4]:=fN 1 Tryz.func189 aQR
noncomputable def aAw:SC:=aS Tryz.f193
noncomputable def mG:Nat->Code:=lpOf Tryz.f193
theorem GG:aL (aO Tryz.f193)=true:=kr
theorem aJ0:FN 193 Tryz.f193 [] Bz15 mG aAw false [.tmp 4,.tmp 5]:=fN 2 Tryz.func193 GG
noncomputable def uH:SC:=aY Tryz.f193 0
theorem wA:ST mG 0 uH:=sT GG
noncomputable def oP:SC:=aY Tryz.f193 1
theorem nU:ST mG 1 oP:=sT GG
noncomputable def aDr:SC:=aS Tryz.f199
noncomputable def aAu:Nat->Code:=lpOf Tryz.f199
theorem aIA:aL (aO Tryz.f199)=true:=kr
theorem aIm:FN 199 Tryz.f199 [] Bz38 aAu aDr false [.tmp 4]:=fN 1 Tryz.func199 aIA
noncomputable def II:SC:=aY Tryz.f199 0
theorem GE:ST aAu 0 II:=sT aIA
noncomputable def xN:SC:=aS Tryz.f200
noncomputable def DT:Nat->Code:=lpOf Tryz.f200
theorem RI:aL (aO Tryz.f200)=true:=kr
theorem DH:FN 200 Tryz.f200 [] Bz65 DT xN false [.tmp 2]:=fN 1 Tryz.func200 RI
noncomputable def mK:SC:=aY Tryz.f200 0
theorem mV:ST DT 0 mK:=sT RI
noncomputable def QJ:SC:=aS Tryz.f201
noncomputable def A1:Nat->Code:=lpOf Tryz.f201
theorem MX:aL (aO Tryz.f201)=true:=kr
theorem aGL:FN 201 Tryz.f201 [] (U1 (Z1 (U4 (Z16 ([]))))) A1 QJ false [.tmp 2,.tmp 3]:=fN 1 Tryz.func201 MX
noncomputable def x6:SC:=aY Tryz.f201 0
theorem CG:ST A1 0 x6:=sT MX
noncomputable def oI:SC:=aS Tryz.f202
noncomputable def BZ:Nat->Code:=lpOf Tryz.f202
theorem B2:aL (aO Tryz.f202)=true:=kr
theorem BX:FN 202 Tryz.f202 [] ([]) BZ oI false [.tmp 4]:=fN 1 Tryz.func202 B2
noncomputable def qR:SC:=aS Tryz.f203
noncomputable def fJ:Nat->Code:=lpOf Tryz.f203
theorem pI:aL (aO Tryz.f203)=true:=kr
theorem EY:FN 203 Tryz.f203 [] Bz48 fJ qR false []:=fN 0 Tryz.func203 pI
noncomputable def eV:SC:=aY Tryz.f203 0
theorem gN:ST fJ 0 eV:=sT pI
noncomputable def aCH:SC:=aS Tryz.f206
noncomputable def lN:Nat->Code:=lpOf Tryz.f206
theorem A6:aL (aO Tryz.f206)=true:=kr
theorem aKO:FN 206 Tryz.f206 [] Bz8 lN aCH false [.tmp 8]:=fN 2 Tryz.func206 A6
noncomputable def GD:SC:=aY Tryz.f206 0
theorem J0:ST lN 0 GD:=sT A6
noncomputable def GQ:SC:=aY Tryz.f206 1
theorem K7:ST lN 1 GQ:=sT A6
noncomputable def F6:SC:=aY Tryz.f206 2
theorem JS:ST lN 2 F6:=sT A6
noncomputable def aMl:SC:=aS Tryz.f207
noncomputable def aQ6:Nat->Code:=lpOf Tryz.f207
theorem aSg:aL (aO Tryz.f207)=true:=kr
theorem aRa:FN 207 Tryz.f207 [] ([]) aQ6 aMl false [.tmp 6]:=fN 1 Tryz.func207 aSg
noncomputable def S5:SC:=aS Tryz.f208
noncomputable def wM:Nat->Code:=lpOf Tryz.f208
theorem P8:aL (aO Tryz.f208)=true:=kr
theorem aB4:FN 208 Tryz.f208 [] Bz20 wM S5 false [.tmp 6]:=fN 1 Tryz.func208 P8
noncomputable def BF:SC:=aY Tryz.f208 0
theorem BL:ST wM 0 BF:=sT P8
noncomputable def A2:SC:=aY Tryz.f208 1
theorem AZ:ST wM 1 A2:=sT P8
noncomputable def aCr:SC:=aS Tryz.f209
noncomputable def L7:Nat->Code:=lpOf Tryz.f209
theorem X6:aL (aO Tryz.f209)=true:=kr
theorem aKP:FN 209 Tryz.f209 [] Bz60 L7 aCr false [.tmp 4]:=fN 1 Tryz.func209 X6
noncomputable def xM:SC:=aY Tryz.f209 0
theorem xZ:ST L7 0 xM:=sT X6
noncomputable def IB:SC:=aS Tryz.f215
noncomputable def QE:Nat->Code:=lpOf Tryz.f215
theorem aBV:aL (aO Tryz.f215)=true:=kr
theorem PV:FN 215 Tryz.f215 [] Bz49 QE IB false [.tmp 8]:=fN 1 Tryz.func215 aBV
noncomputable def A9:SC:=aY Tryz.f215 0
theorem zN:ST QE 0 A9:=sT aBV
noncomputable def aJq:SC:=aS Tryz.f217
noncomputable def aP6:Nat->Code:=lpOf Tryz.f217
theorem aPg:aL (aO Tryz.f217)=true:=kr
theorem aPq:FN 217 Tryz.f217 [] ([]) aP6 aJq false [.tmp 2]:=fN 1 Tryz.func217 aPg
noncomputable def iK:SC:=aS Tryz.f218
noncomputable def IK:Nat->Code:=lpOf Tryz.f218
theorem HY:aL (aO Tryz.f218)=true:=kr
theorem kQ:FN 218 Tryz.f218 [] ([]) IK iK false [.tmp 2]:=fN 1 Tryz.func218 HY
noncomputable def VF:SC:=aS Tryz.f225
noncomputable def aHz:Nat->Code:=lpOf Tryz.f225
theorem aG0:aL (aO Tryz.f225)=true:=kr
theorem aGU:FN 225 Tryz.f225 [] (Z2 (U2 (Z4 (U4 (Z32 (Z32 (Z2 (Z1 ([]))))))))) aHz VF false [.tmp 8]:=fN 2 Tryz.func225 aG0
end
end Ev
end Go.Proofs.YthlkcebdfbjdoaaGreatDoor
