/-
  Each function's code as an equation. Written by a program.
-/
import Derived.Test.YthlkcebdfbjdoaaGreatEnv
set_option linter.unusedSimpArgs false
set_option linter.unusedVariables false
set_option maxRecDepth 100000
namespace Go.Proofs.YthlkcebdfbjdoaaGreat
namespace Ev
abbrev FN(f:Nat)(fn:Func)(th:List Nat)(lv:List Bool)(lp:Nat->Code)(S:SC)(e:Bool)(rs:List ResultVar):Prop:=∀(L n:Nat) (args:List A) (h:H),aA env L (n+1) f args h=cU env (aA env L n) L h.length th lv lp S (args++List.replicate (fn.ntmps-args.length) (.d .undef)) h (kFin env.P h.length e rs)
theorem fN (mode : Nat) {f : Nat} {fn : Func} {e : Bool} {th : List Nat} {lv : List Bool} {rs : List ResultVar} (hf : env.P.funcs[f]? = some fn) (hd : aL (aO fn) = true) (hp : (env.prim f).isNone = true := by kernel_rfl) (hb : fn.body.isSome = true := by kernel_rfl) (hn : (fn.name == "runtime.NumGoroutine") = false := by kernel_rfl) (hh : env.hint f = ⟨mode, e, th, lv⟩ := by kernel_rfl) (hr : fn.results.toList = rs := by kernel_rfl) : FN f fn th lv (lpOf fn) (aQ fn) e rs := fun _ _ _ _ => J2 hp hf hb hn hd hh hr
abbrev ST(lp:Nat->Code)(i:Nat)(S:SC):Prop:=∀(R:Type) (call:aX) (L nf n:Nat) (thaw:List Nat) (live m:List Bool) (s:List A) (h:H) (k:KE R),aT env call L nf thaw live (lp i) m (n+1) s h k=cU env call L nf thaw live lp S s h (ZS env call L nf thaw live (lp i) m n k)
theorem sT{fn:Func}{i:Nat}(hd:aL (aO fn)=true)(hi:((bR (aO fn))[i]?).isSome=true:=by kernel_rfl):ST (lpOf fn) i (a6 fn i):=fun _ _ _ _ _ _ _ _ _ _ _=>aE5 hd hi
section
variable{R:Type}{call:aX}{L nf n:Nat}{thaw:List Nat}{live m:List Bool}{s args:List A}{h:H}{k:KE R}
noncomputable def oM:SC:=aQ Tryz.f6
noncomputable def aAc:Nat->Code:=lpOf Tryz.f6
theorem aAa:aL (aO Tryz.f6)=true:=kr
theorem uL:FN 6 Tryz.f6 [] ([]) aAc oM false [.tmp 2]:=fN 1 Tryz.func6 aAa
noncomputable def lN:SC:=aQ Tryz.f9
noncomputable def iY:Nat->Code:=lpOf Tryz.f9
theorem tU:aL (aO Tryz.f9)=true:=kr
theorem nM:FN 9 Tryz.f9 [] Bz1 iY lN true [.tmp 4,.tmp 5]:=fN 3 Tryz.func9 tU
noncomputable def qT:SC:=a6 Tryz.f9 0
theorem sU:ST iY 0 qT:=sT tU
noncomputable def rE:SC:=a6 Tryz.f9 1
theorem sP:ST iY 1 rE:=sT tU
noncomputable def zE:SC:=a6 Tryz.f9 2
theorem CZ:ST iY 2 zE:=sT tU
noncomputable def lO:SC:=aQ Tryz.f10
noncomputable def jC:Nat->Code:=lpOf Tryz.f10
theorem tV:aL (aO Tryz.f10)=true:=kr
theorem nQ:FN 10 Tryz.f10 [] Bz10 jC lO false [.tmp 4,.tmp 5]:=fN 2 Tryz.func10 tV
noncomputable def rN:SC:=a6 Tryz.f10 0
theorem sR:ST jC 0 rN:=sT tV
noncomputable def rO:SC:=a6 Tryz.f10 1
theorem r8:ST jC 1 rO:=sT tV
noncomputable def qQ:SC:=a6 Tryz.f10 2
theorem rS:ST jC 2 qQ:=sT tV
noncomputable def nD:SC:=aQ Tryz.f12
noncomputable def AG:Nat->Code:=lpOf Tryz.f12
theorem KL:aL (aO Tryz.f12)=true:=kr
theorem qN:FN 12 Tryz.f12 [] Bz48 AG nD false [.tmp 4]:=fN 1 Tryz.func12 KL
noncomputable def pA:SC:=a6 Tryz.f12 0
theorem qI:ST AG 0 pA:=sT KL
noncomputable def s8:SC:=aQ Tryz.f13
noncomputable def aEY:Nat->Code:=lpOf Tryz.f13
theorem aDA:aL (aO Tryz.f13)=true:=kr
theorem yK:FN 13 Tryz.f13 [] ([]) aEY s8 false [.tmp 4]:=fN 1 Tryz.func13 aDA
noncomputable def P6:SC:=aQ Tryz.f14
noncomputable def zA:Nat->Code:=lpOf Tryz.f14
theorem L9:aL (aO Tryz.f14)=true:=kr
theorem aDu:FN 14 Tryz.f14 [0,0,0,2] Bz52 zA P6 true [.tmp 2]:=fN 3 Tryz.func14 L9
noncomputable def oU:SC:=a6 Tryz.f14 0
theorem qH:ST zA 0 oU:=sT L9
noncomputable def AS:SC:=aQ Tryz.f15
noncomputable def gY:Nat->Code:=lpOf Tryz.f15
theorem oF:aL (aO Tryz.f15)=true:=kr
theorem QX:FN 15 Tryz.f15 [] Bz16 gY AS true [.tmp 2]:=fN 3 Tryz.func15 oF
noncomputable def m6:SC:=a6 Tryz.f15 0
theorem r6:ST gY 0 m6:=sT oF
noncomputable def gB:SC:=a6 Tryz.f15 1
theorem gN:ST gY 1 gB:=sT oF
noncomputable def NR:SC:=aQ Tryz.f17
noncomputable def J9:Nat->Code:=lpOf Tryz.f17
theorem VD:aL (aO Tryz.f17)=true:=kr
theorem WC:FN 17 Tryz.f17 [] Bz14 J9 NR false [.tmp 4]:=fN 1 Tryz.func17 VD
noncomputable def vV:SC:=a6 Tryz.f17 0
theorem wW:ST J9 0 vV:=sT VD
noncomputable def eT:SC:=aQ Tryz.f19
noncomputable def QA:Nat->Code:=lpOf Tryz.f19
theorem P1:aL (aO Tryz.f19)=true:=kr
theorem gE:FN 19 Tryz.f19 [] ([]) QA eT false (Tryz.f19.results.toList):=fN 2 Tryz.func19 P1
noncomputable def lF:SC:=aQ Tryz.f20
noncomputable def uK:Nat->Code:=lpOf Tryz.f20
theorem FZ:aL (aO Tryz.f20)=true:=kr
theorem m4:FN 20 Tryz.f20 [] Bz30 uK lF false [.tmp 6,.tmp 7]:=fN 1 Tryz.func20 FZ
noncomputable def mB:SC:=a6 Tryz.f20 0
theorem nA:ST uK 0 mB:=sT FZ
noncomputable def kZ:SC:=aQ Tryz.f21
noncomputable def uO:Nat->Code:=lpOf Tryz.f21
theorem FK:aL (aO Tryz.f21)=true:=kr
theorem mX:FN 21 Tryz.f21 [] Bz31 uO kZ false [.tmp 6,.tmp 7]:=fN 1 Tryz.func21 FK
noncomputable def mE:SC:=a6 Tryz.f21 0
theorem nT:ST uO 0 mE:=sT FK
noncomputable def MZ:SC:=aQ Tryz.f23
noncomputable def aBz:Nat->Code:=lpOf Tryz.f23
theorem aB2:aL (aO Tryz.f23)=true:=kr
theorem aCx:FN 23 Tryz.f23 [] ([]) aBz MZ false [.tmp 4]:=fN 1 Tryz.func23 aB2
noncomputable def J3:SC:=aQ Tryz.f24
noncomputable def aIg:Nat->Code:=lpOf Tryz.f24
theorem aIu:aL (aO Tryz.f24)=true:=kr
theorem SU:FN 24 Tryz.f24 [] ([]) aIg J3 false [.tmp 4,.tmp 5]:=fN 1 Tryz.func24 aIu
noncomputable def rA:SC:=aQ Tryz.f25
noncomputable def aBC:Nat->Code:=lpOf Tryz.f25
theorem aCF:aL (aO Tryz.f25)=true:=kr
theorem wN:FN 25 Tryz.f25 [] ([]) aBC rA false [.tmp 6]:=fN 1 Tryz.func25 aCF
noncomputable def NP:SC:=aQ Tryz.f27
noncomputable def aJ8:Nat->Code:=lpOf Tryz.f27
theorem aJl:aL (aO Tryz.f27)=true:=kr
theorem VG:FN 27 Tryz.f27 [] ([]) aJ8 NP true [.tmp 2]:=fN 2 Tryz.func27 aJl
noncomputable def jG:SC:=aQ Tryz.f28
noncomputable def aKD:Nat->Code:=lpOf Tryz.f28
theorem aK9:aL (aO Tryz.f28)=true:=kr
theorem jJ:FN 28 Tryz.f28 [] ([]) aKD jG false (Tryz.f28.results.toList):=fN 0 Tryz.func28 aK9
noncomputable def VH:SC:=aQ Tryz.f29
noncomputable def aIF:Nat->Code:=lpOf Tryz.f29
theorem aIt:aL (aO Tryz.f29)=true:=kr
theorem aH1:FN 29 Tryz.f29 [] ([]) aIF VH false [.tmp 2]:=fN 0 Tryz.func29 aIt
noncomputable def eL:SC:=aQ Tryz.f30
noncomputable def iU:Nat->Code:=lpOf Tryz.f30
theorem qM:aL (aO Tryz.f30)=true:=kr
theorem fO:FN 30 Tryz.f30 [] Bz7 iU eL false [.tmp 2]:=fN 1 Tryz.func30 qM
noncomputable def gL:SC:=a6 Tryz.f30 0
theorem iP:ST iU 0 gL:=sT qM
noncomputable def iA:SC:=a6 Tryz.f30 1
theorem iQ:ST iU 1 iA:=sT qM
noncomputable def SR:SC:=aQ Tryz.f31
noncomputable def iZ:Nat->Code:=lpOf Tryz.f31
theorem tM:aL (aO Tryz.f31)=true:=kr
theorem aGa:FN 31 Tryz.f31 (W8 (W4 [2002])) Bz4 iZ SR false [.tmp 4]:=fN 2 Tryz.func31 tM
noncomputable def yX:SC:=a6 Tryz.f31 0
theorem DL:ST iZ 0 yX:=sT tM
noncomputable def zQ:SC:=a6 Tryz.f31 1
theorem DF:ST iZ 1 zQ:=sT tM
noncomputable def yJ:SC:=a6 Tryz.f31 2
theorem EL:ST iZ 2 yJ:=sT tM
theorem AN{L n:Nat}{args:List A}{h:H}:aA env L (n+1) 32 args h=BW 66 34 args h:=by
 have:env.prim 32=some (BW 66 34):=kr;simp only[aA,this]
noncomputable def iK:SC:=aQ Tryz.f33
noncomputable def pH:Nat->Code:=lpOf Tryz.f33
theorem oZ:aL (aO Tryz.f33)=true:=kr
theorem oK:FN 33 Tryz.f33 [] ([]) pH iK true [.tmp 2]:=fN 0 Tryz.func33 oZ
noncomputable def zC:SC:=aQ Tryz.f34
noncomputable def SL:Nat->Code:=lpOf Tryz.f34
theorem TQ:aL (aO Tryz.f34)=true:=kr
theorem aIh:FN 34 Tryz.f34 [] ([]) SL zC false [.tmp 4]:=fN 1 Tryz.func34 TQ
noncomputable def eP:SC:=aQ Tryz.f35
noncomputable def qL:Nat->Code:=lpOf Tryz.f35
theorem AY:aL (aO Tryz.f35)=true:=kr
theorem fM:FN 35 Tryz.f35 [] Bz59 qL eP false [.tmp 2]:=fN 1 Tryz.func35 AY
noncomputable def kA:SC:=a6 Tryz.f35 0
theorem lJ:ST qL 0 kA:=sT AY
noncomputable def BZ:SC:=aQ Tryz.f36
noncomputable def zK:Nat->Code:=lpOf Tryz.f36
theorem NC:aL (aO Tryz.f36)=true:=kr
theorem MC:FN 36 Tryz.f36 [] Bz64 zK BZ false [.tmp 2]:=fN 2 Tryz.func36 NC
noncomputable def wH:SC:=a6 Tryz.f36 0
theorem A5:ST zK 0 wH:=sT NC
noncomputable def qJ:SC:=aQ Tryz.f37
noncomputable def hM:Nat->Code:=lpOf Tryz.f37
theorem pG:aL (aO Tryz.f37)=true:=kr
theorem yL:FN 37 Tryz.f37 [] Bz38 hM qJ false [.tmp 2]:=fN 2 Tryz.func37 pG
noncomputable def nE:SC:=a6 Tryz.f37 0
theorem rY:ST hM 0 nE:=sT pG
noncomputable def fZ:SC:=a6 Tryz.f37 1
theorem hZ:ST hM 1 fZ:=sT pG
noncomputable def S7:SC:=aQ Tryz.f38
noncomputable def kP:Nat->Code:=lpOf Tryz.f38
theorem A9:aL (aO Tryz.f38)=true:=kr
theorem aFr:FN 38 Tryz.f38 [] Bz11 kP S7 false [.tmp 4]:=fN 2 Tryz.func38 A9
noncomputable def rB:SC:=a6 Tryz.f38 0
theorem sW:ST kP 0 rB:=sT A9
noncomputable def zI:SC:=a6 Tryz.f38 1
theorem DK:ST kP 1 zI:=sT A9
noncomputable def GG:SC:=aQ Tryz.f39
noncomputable def N7:Nat->Code:=lpOf Tryz.f39
theorem aAG:aL (aO Tryz.f39)=true:=kr
theorem NQ:FN 39 Tryz.f39 [] Bz60 N7 GG false [.tmp 4]:=fN 0 Tryz.func39 aAG
noncomputable def JU:SC:=a6 Tryz.f39 0
theorem KR:ST N7 0 JU:=sT aAG
noncomputable def PZ:SC:=aQ Tryz.f40
noncomputable def aDd:Nat->Code:=lpOf Tryz.f40
theorem aEn:aL (aO Tryz.f40)=true:=kr
theorem aEV:FN 40 Tryz.f40 [] ([]) aDd PZ false [.tmp 2]:=fN 1 Tryz.func40 aEn
noncomputable def aMm:SC:=aQ Tryz.f41
noncomputable def aRo:Nat->Code:=lpOf Tryz.f41
theorem aQB:aL (aO Tryz.f41)=true:=kr
theorem aQE:FN 41 Tryz.f41 [] ([]) aRo aMm false [.tmp 4]:=fN 1 Tryz.func41 aQB
noncomputable def V3:SC:=aQ Tryz.f42
noncomputable def aIk:Nat->Code:=lpOf Tryz.f42
theorem aIy:aL (aO Tryz.f42)=true:=kr
theorem aIa:FN 42 Tryz.f42 [] ([]) aIk V3 false [.tmp 4]:=fN 1 Tryz.func42 aIy
noncomputable def TP:SC:=aQ Tryz.f43
noncomputable def aFF:Nat->Code:=lpOf Tryz.f43
theorem aFJ:aL (aO Tryz.f43)=true:=kr
theorem aFU:FN 43 Tryz.f43 [] ([]) aFF TP false [.tmp 2]:=fN 1 Tryz.func43 aFJ
noncomputable def BY:SC:=aQ Tryz.f44
noncomputable def aDj:Nat->Code:=lpOf Tryz.f44
theorem aDL:aL (aO Tryz.f44)=true:=kr
theorem M1:FN 44 Tryz.f44 [] ([]) aDj BY false [.tmp 4,.tmp 5]:=fN 1 Tryz.func44 aDL
theorem uM{L n:Nat}{args:List A}{h:H}:aA env L (n+1) 45 args h=JX 34 args h:=by
 have:env.prim 45=some (JX 34):=kr;simp only[aA,this]
noncomputable def gQ:SC:=aQ Tryz.f46
noncomputable def aCo:Nat->Code:=lpOf Tryz.f46
theorem aCi:aL (aO Tryz.f46)=true:=kr
theorem iW:FN 46 Tryz.f46 [] ([]) aCo gQ false [.tmp 6,.tmp 7]:=fN 1 Tryz.func46 aCi
noncomputable def lH:SC:=aQ Tryz.f47
noncomputable def wV:Nat->Code:=lpOf Tryz.f47
theorem wT:aL (aO Tryz.f47)=true:=kr
theorem wL:FN 47 Tryz.f47 [] ([]) wV lH false [.tmp 4]:=fN 1 Tryz.func47 wT
noncomputable def eJ:SC:=aQ Tryz.f48
noncomputable def aIr:Nat->Code:=lpOf Tryz.f48
theorem aH8:aL (aO Tryz.f48)=true:=kr
theorem eR:FN 48 Tryz.f48 (W32 (W32 (W16 (W8 (W4 (W1 [1002])))))) ([]) aIr eJ false (Tryz.f48.results.toList):=fN 0 Tryz.func48 aH8
noncomputable def nP:SC:=aQ Tryz.f49
noncomputable def aDt:Nat->Code:=lpOf Tryz.f49
theorem aEF:aL (aO Tryz.f49)=true:=kr
theorem rJ:FN 49 Tryz.f49 [] ([]) aDt nP false [.tmp 4]:=fN 0 Tryz.func49 aEF
noncomputable def RK:SC:=aQ Tryz.f50
noncomputable def aLm:Nat->Code:=lpOf Tryz.f50
theorem aLf:aL (aO Tryz.f50)=true:=kr
theorem aAK:FN 50 Tryz.f50 [] ([]) aLm RK false (Tryz.f50.results.toList):=fN 0 Tryz.func50 aLf
noncomputable def nC:SC:=aQ Tryz.f51
noncomputable def N9:Nat->Code:=lpOf Tryz.f51
theorem NX:aL (aO Tryz.f51)=true:=kr
theorem uX:FN 51 Tryz.f51 [] ([]) N9 nC false (Tryz.f51.results.toList):=fN 2 Tryz.func51 NX
noncomputable def rI:SC:=aQ Tryz.f52
noncomputable def aBy:Nat->Code:=lpOf Tryz.f52
theorem aCL:aL (aO Tryz.f52)=true:=kr
theorem wQ:FN 52 Tryz.f52 [] ([]) aBy rI false [.tmp 4]:=fN 1 Tryz.func52 aCL
noncomputable def MS:SC:=aQ Tryz.f53
noncomputable def aNV:Nat->Code:=lpOf Tryz.f53
theorem aNI:aL (aO Tryz.f53)=true:=kr
theorem R0:FN 53 Tryz.f53 [] ([]) aNV MS false [.tmp 4]:=fN 1 Tryz.func53 aNI
noncomputable def LQ:SC:=aQ Tryz.f54
noncomputable def aB7:Nat->Code:=lpOf Tryz.f54
theorem aCM:aL (aO Tryz.f54)=true:=kr
theorem aCv:FN 54 Tryz.f54 [] ([]) aB7 LQ false [.tmp 4]:=fN 1 Tryz.func54 aCM
noncomputable def tL:SC:=aQ Tryz.f55
noncomputable def yQ:Nat->Code:=lpOf Tryz.f55
theorem KX:aL (aO Tryz.f55)=true:=kr
theorem zR:FN 55 Tryz.f55 [] Bz33 yQ tL false [.tmp 4]:=fN 1 Tryz.func55 KX
noncomputable def wD:SC:=a6 Tryz.f55 0
theorem A4:ST yQ 0 wD:=sT KX
noncomputable def KQ:SC:=aQ Tryz.f56
noncomputable def aBM:Nat->Code:=lpOf Tryz.f56
theorem aCb:aL (aO Tryz.f56)=true:=kr
theorem aCT:FN 56 Tryz.f56 [] ([]) aBM KQ false [.tmp 10,.tmp 11]:=fN 1 Tryz.func56 aCb
noncomputable def M2:SC:=aQ Tryz.f57
noncomputable def aCr:Nat->Code:=lpOf Tryz.f57
theorem aBV:aL (aO Tryz.f57)=true:=kr
theorem aBN:FN 57 Tryz.f57 [] ([]) aCr M2 false [.tmp 4]:=fN 0 Tryz.func57 aBV
noncomputable def c9:SC:=aQ Tryz.f59
noncomputable def y8:Nat->Code:=lpOf Tryz.f59
theorem VK:aL (aO Tryz.f59)=true:=kr
theorem cV:FN 59 Tryz.f59 (W32 (W32 (W16 (W2 (W1 [1002,0,0,0,0,0,0,0,0,0,0,0,0,0,0,0,0,0,0,0,0,0,1002]))))) Bz20 y8 c9 false (Tryz.f59.results.toList):=fN 0 Tryz.func59 VK
noncomputable def vZ:SC:=a6 Tryz.f59 0
theorem wC:ST y8 0 vZ:=sT VK
noncomputable def aGp:SC:=aQ Tryz.f60
noncomputable def GF:Nat->Code:=lpOf Tryz.f60
theorem aES:aL (aO Tryz.f60)=true:=kr
theorem aNO:FN 60 Tryz.f60 [] Bz23 GF aGp false (Tryz.f60.results.toList):=fN 0 Tryz.func60 aES
noncomputable def CK:SC:=a6 Tryz.f60 0
theorem B0:ST GF 0 CK:=sT aES
noncomputable def YD:SC:=aQ Tryz.f61
noncomputable def j2:Nat->Code:=lpOf Tryz.f61
theorem FB:aL (aO Tryz.f61)=true:=kr
theorem aIj:FN 61 Tryz.f61 (W32 (W4 (W1 [1002]))) Bz5 j2 YD true (Tryz.f61.results.toList):=fN 0 Tryz.func61 FB
noncomputable def tJ:SC:=a6 Tryz.f61 0
theorem uH:ST j2 0 tJ:=sT FB
noncomputable def nZ:SC:=a6 Tryz.f61 1
theorem mZ:ST j2 1 nZ:=sT FB
noncomputable def SX:SC:=aQ Tryz.f62
noncomputable def aFZ:Nat->Code:=lpOf Tryz.f62
theorem aFn:aL (aO Tryz.f62)=true:=kr
theorem aFL:FN 62 Tryz.f62 [] ([]) aFZ SX false [.tmp 4]:=fN 0 Tryz.func62 aFn
noncomputable def SI:SC:=aQ Tryz.f63
noncomputable def sY:Nat->Code:=lpOf Tryz.f63
theorem PW:aL (aO Tryz.f63)=true:=kr
theorem aGd:FN 63 Tryz.f63 [0,0,0,2] Bz27 sY SI false [.tmp 2]:=fN 2 Tryz.func63 PW
noncomputable def rF:SC:=a6 Tryz.f63 0
theorem rT:ST sY 0 rF:=sT PW
noncomputable def PT:SC:=aQ Tryz.f64
noncomputable def aDD:Nat->Code:=lpOf Tryz.f64
theorem aEI:aL (aO Tryz.f64)=true:=kr
theorem aDl:FN 64 Tryz.f64 [] ([]) aDD PT false [.tmp 2]:=fN 1 Tryz.func64 aEI
noncomputable def nY:SC:=aQ Tryz.f67
noncomputable def iH:Nat->Code:=lpOf Tryz.f67
theorem vP:aL (aO Tryz.f67)=true:=kr
theorem UA:FN 67 Tryz.f67 [] Bz34 iH nY false [.tmp 2]:=fN 1 Tryz.func67 vP
noncomputable def fY:SC:=a6 Tryz.f67 0
theorem uG:ST iH 0 fY:=sT vP
noncomputable def eB:SC:=aQ Tryz.f68
noncomputable def D3:Nat->Code:=lpOf Tryz.f68
theorem DW:aL (aO Tryz.f68)=true:=kr
theorem sQ:FN 68 Tryz.f68 [] ([]) D3 eB false [.tmp 4]:=fN 1 Tryz.func68 DW
noncomputable def dE:SC:=aQ Tryz.f69
noncomputable def x3:Nat->Code:=lpOf Tryz.f69
theorem xH:aL (aO Tryz.f69)=true:=kr
theorem nR:FN 69 Tryz.f69 [] ([]) x3 dE false [.tmp 4]:=fN 1 Tryz.func69 xH
noncomputable def OF:SC:=aQ Tryz.f70
noncomputable def aD8:Nat->Code:=lpOf Tryz.f70
theorem aEC:aL (aO Tryz.f70)=true:=kr
theorem aEf:FN 70 Tryz.f70 [] ([]) aD8 OF false [.tmp 2]:=fN 1 Tryz.func70 aEC
noncomputable def LW:SC:=aQ Tryz.f71
noncomputable def RS:Nat->Code:=lpOf Tryz.f71
theorem aDG:aL (aO Tryz.f71)=true:=kr
theorem QU:FN 71 Tryz.f71 [] Bz35 RS LW false [.tmp 6]:=fN 1 Tryz.func71 aDG
noncomputable def uU:SC:=a6 Tryz.f71 0
theorem tC:ST RS 0 uU:=sT aDG
noncomputable def TU:SC:=aQ Tryz.f72
noncomputable def BV:Nat->Code:=lpOf Tryz.f72
theorem PQ:aL (aO Tryz.f72)=true:=kr
theorem aFO:FN 72 Tryz.f72 [] Bz55 BV TU false [.tmp 2]:=fN 2 Tryz.func72 PQ
noncomputable def qS:SC:=a6 Tryz.f72 0
theorem sN:ST BV 0 qS:=sT PQ
noncomputable def aC4:SC:=aQ Tryz.f73
noncomputable def vM:Nat->Code:=lpOf Tryz.f73
theorem N8:aL (aO Tryz.f73)=true:=kr
theorem aLB:FN 73 Tryz.f73 [] Bz21 vM aC4 false (Tryz.f73.results.toList):=fN 2 Tryz.func73 N8
noncomputable def yG:SC:=a6 Tryz.f73 0
theorem AJ:ST vM 0 yG:=sT N8
noncomputable def JC:SC:=a6 Tryz.f73 1
theorem ND:ST vM 1 JC:=sT N8
noncomputable def tK:SC:=aQ Tryz.f74
noncomputable def aFb:Nat->Code:=lpOf Tryz.f74
theorem aDx:aL (aO Tryz.f74)=true:=kr
theorem yV:FN 74 Tryz.f74 [] ([]) aFb tK false [.tmp 4,.tmp 5]:=fN 1 Tryz.func74 aDx
noncomputable def lV:SC:=aQ Tryz.f75
noncomputable def aCy:Nat->Code:=lpOf Tryz.f75
theorem aCt:aL (aO Tryz.f75)=true:=kr
theorem oX:FN 75 Tryz.f75 [] ([]) aCy lV false [.tmp 6,.tmp 7]:=fN 1 Tryz.func75 aCt
noncomputable def VP:SC:=aQ Tryz.f76
noncomputable def R1:Nat->Code:=lpOf Tryz.f76
theorem aEz:aL (aO Tryz.f76)=true:=kr
theorem aD3:FN 76 Tryz.f76 [] Bz14 R1 VP false [.tmp 4]:=fN 1 Tryz.func76 aEz
noncomputable def CU:SC:=a6 Tryz.f76 0
theorem B1:ST R1 0 CU:=sT aEz
noncomputable def aC9:SC:=aQ Tryz.f77
noncomputable def aLp:Nat->Code:=lpOf Tryz.f77
theorem aLM:aL (aO Tryz.f77)=true:=kr
theorem aLt:FN 77 Tryz.f77 [] ([]) aLp aC9 false [.tmp 2]:=fN 1 Tryz.func77 aLM
noncomputable def V7:SC:=aQ Tryz.f78
noncomputable def FD:Nat->Code:=lpOf Tryz.f78
theorem S9:aL (aO Tryz.f78)=true:=kr
theorem aIJ:FN 78 Tryz.f78 [] Bz61 FD V7 false [.tmp 4]:=fN 1 Tryz.func78 S9
noncomputable def m7:SC:=a6 Tryz.f78 0
theorem mV:ST FD 0 m7:=sT S9
noncomputable def TO:SC:=aQ Tryz.f79
noncomputable def aFt:Nat->Code:=lpOf Tryz.f79
theorem aFj:aL (aO Tryz.f79)=true:=kr
theorem aFN:FN 79 Tryz.f79 [] ([]) aFt TO false [.tmp 4,.tmp 5]:=fN 1 Tryz.func79 aFj
noncomputable def uI:SC:=aQ Tryz.f80
noncomputable def WS:Nat->Code:=lpOf Tryz.f80
theorem XT:aL (aO Tryz.f80)=true:=kr
theorem DV:FN 80 Tryz.f80 [] ([]) WS uI false [.tmp 3]:=fN 0 Tryz.func80 XT
noncomputable def DP:SC:=aQ Tryz.f83
noncomputable def UJ:Nat->Code:=lpOf Tryz.f83
theorem UZ:aL (aO Tryz.f83)=true:=kr
theorem UU:FN 83 Tryz.f83 [] ([]) UJ DP false [.tmp 4]:=fN 0 Tryz.func83 UZ
noncomputable def jA:SC:=aQ Tryz.f84
noncomputable def iO:Nat->Code:=lpOf Tryz.f84
theorem mQ:aL (aO Tryz.f84)=true:=kr
theorem mR:FN 84 Tryz.f84 [] Bz56 iO jA false [.tmp 4]:=fN 1 Tryz.func84 mQ
noncomputable def eE:SC:=a6 Tryz.f84 0
theorem fQ:ST iO 0 eE:=sT mQ
noncomputable def R5:SC:=aQ Tryz.f85
noncomputable def pU:Nat->Code:=lpOf Tryz.f85
theorem aA7:aL (aO Tryz.f85)=true:=kr
theorem aBb:FN 85 Tryz.f85 (W16 (W8 (W4 [1002]))) Bz13 pU R5 true (Tryz.f85.results.toList):=fN 2 Tryz.func85 aA7
noncomputable def sB:SC:=a6 Tryz.f85 0
theorem qR:ST pU 0 sB:=sT aA7
noncomputable def XN:SC:=aQ Tryz.f87
noncomputable def aIw:Nat->Code:=lpOf Tryz.f87
theorem aH9:aL (aO Tryz.f87)=true:=kr
theorem aIp:FN 87 Tryz.f87 [] ([]) aIw XN false [.tmp 4]:=fN 0 Tryz.func87 aH9
noncomputable def R9:SC:=aQ Tryz.f89
noncomputable def aLx:Nat->Code:=lpOf Tryz.f89
theorem aL7:aL (aO Tryz.f89)=true:=kr
theorem aAD:FN 89 Tryz.f89 [] ([]) aLx R9 false (Tryz.f89.results.toList):=fN 0 Tryz.func89 aL7
noncomputable def SV:SC:=aQ Tryz.f90
noncomputable def n5:Nat->Code:=lpOf Tryz.f90
theorem BL:aL (aO Tryz.f90)=true:=kr
theorem aFx:FN 90 Tryz.f90 [] Bz29 n5 SV false (Tryz.f90.results.toList):=fN 2 Tryz.func90 BL
noncomputable def rL:SC:=a6 Tryz.f90 0
theorem r9:ST n5 0 rL:=sT BL
noncomputable def z6:SC:=a6 Tryz.f90 1
theorem DC:ST n5 1 z6:=sT BL
noncomputable def PI:SC:=aQ Tryz.f91
noncomputable def aEZ:Nat->Code:=lpOf Tryz.f91
theorem aFf:aL (aO Tryz.f91)=true:=kr
theorem aEr:FN 91 Tryz.f91 [] ([]) aEZ PI false [.tmp 4]:=fN 1 Tryz.func91 aFf
noncomputable def aAS:SC:=aQ Tryz.f92
noncomputable def kY:Nat->Code:=lpOf Tryz.f92
theorem AF:aL (aO Tryz.f92)=true:=kr
theorem aIV:FN 92 Tryz.f92 [] Bz3 kY aAS false [.tmp 2]:=fN 2 Tryz.func92 AF
noncomputable def EN:SC:=a6 Tryz.f92 0
theorem HS:ST kY 0 EN:=sT AF
noncomputable def EP:SC:=a6 Tryz.f92 1
theorem IO:ST kY 1 EP:=sT AF
noncomputable def EO:SC:=a6 Tryz.f92 2
theorem HH:ST kY 2 EO:=sT AF
noncomputable def C9:SC:=aQ Tryz.f93
noncomputable def US:Nat->Code:=lpOf Tryz.f93
theorem UT:aL (aO Tryz.f93)=true:=kr
theorem UX:FN 93 Tryz.f93 [] ([]) US C9 false [.tmp 9]:=fN 0 Tryz.func93 UT
noncomputable def vX:SC:=aQ Tryz.f94
noncomputable def i7:Nat->Code:=lpOf Tryz.f94
theorem tB:aL (aO Tryz.f94)=true:=kr
theorem CB:FN 94 Tryz.f94 (W16 (W2 [2])) Bz2 i7 vX false [.tmp 10,.tmp 11]:=fN 1 Tryz.func94 tB
noncomputable def lW:SC:=a6 Tryz.f94 0
theorem mC:ST i7 0 lW:=sT tB
noncomputable def qO:SC:=a6 Tryz.f94 1
theorem sH:ST i7 1 qO:=sT tB
noncomputable def AA:SC:=a6 Tryz.f94 2
theorem C6:ST i7 2 AA:=sT tB
noncomputable def DD:SC:=aQ Tryz.f95
noncomputable def UH:Nat->Code:=lpOf Tryz.f95
theorem UR:aL (aO Tryz.f95)=true:=kr
theorem UL:FN 95 Tryz.f95 [] ([]) UH DD false [.tmp 6]:=fN 0 Tryz.func95 UR
noncomputable def rP:SC:=aQ Tryz.f99
noncomputable def IZ:Nat->Code:=lpOf Tryz.f99
theorem KH:aL (aO Tryz.f99)=true:=kr
theorem aBZ:FN 99 Tryz.f99 [] ([]) IZ rP false [.tmp 2]:=fN 1 Tryz.func99 KH
noncomputable def lT:SC:=aQ Tryz.f100
noncomputable def AX:Nat->Code:=lpOf Tryz.f100
theorem AV:aL (aO Tryz.f100)=true:=kr
theorem UI:FN 100 Tryz.f100 [] ([]) AX lT false [.tmp 2]:=fN 1 Tryz.func100 AV
noncomputable def aHE:SC:=aQ Tryz.f101
noncomputable def aN6:Nat->Code:=lpOf Tryz.f101
theorem aNs:aL (aO Tryz.f101)=true:=kr
theorem aNK:FN 101 Tryz.f101 [] ([]) aN6 aHE false [.tmp 4]:=fN 1 Tryz.func101 aNs
noncomputable def aBo:SC:=aQ Tryz.f102
noncomputable def nU:Nat->Code:=lpOf Tryz.f102
theorem IF:aL (aO Tryz.f102)=true:=kr
theorem aJP:FN 102 Tryz.f102 [] Bz32 nU aBo false [.tmp 2]:=fN 2 Tryz.func102 IF
noncomputable def FH:SC:=a6 Tryz.f102 0
theorem HT:ST nU 0 FH:=sT IF
noncomputable def vY:SC:=a6 Tryz.f102 1
theorem wS:ST nU 1 vY:=sT IF
noncomputable def aAJ:SC:=aQ Tryz.f103
noncomputable def IJ:Nat->Code:=lpOf Tryz.f103
theorem U9:aL (aO Tryz.f103)=true:=kr
theorem aK4:FN 103 Tryz.f103 [] Bz67 IJ aAJ false [.tmp 4]:=fN 1 Tryz.func103 U9
noncomputable def ET:SC:=a6 Tryz.f103 0
theorem JP:ST IJ 0 ET:=sT U9
noncomputable def CR:SC:=aQ Tryz.f104
noncomputable def aI6:Nat->Code:=lpOf Tryz.f104
theorem aK1:aL (aO Tryz.f104)=true:=kr
theorem IG:FN 104 Tryz.f104 [] ([]) aI6 CR false [.tmp 4]:=fN 1 Tryz.func104 aK1
noncomputable def CH:SC:=aQ Tryz.f105
noncomputable def d7:Nat->Code:=lpOf Tryz.f105
theorem r5:aL (aO Tryz.f105)=true:=kr
theorem HK:FN 105 Tryz.f105 [] Bz0 d7 CH false [.tmp 2,.tmp 3]:=fN 1 Tryz.func105 r5
noncomputable def ER:SC:=a6 Tryz.f105 0
theorem JE:ST d7 0 ER:=sT r5
noncomputable def vO:SC:=a6 Tryz.f105 1
theorem wK:ST d7 1 vO:=sT r5
noncomputable def pN:SC:=a6 Tryz.f105 2
theorem oY:ST d7 2 pN:=sT r5
noncomputable def pL:SC:=a6 Tryz.f105 3
theorem oN:ST d7 3 pL:=sT r5
noncomputable def s7:SC:=aQ Tryz.f106
noncomputable def aEi:Nat->Code:=lpOf Tryz.f106
theorem aE2:aL (aO Tryz.f106)=true:=kr
theorem yO:FN 106 Tryz.f106 [] ([]) aEi s7 false [.tmp 4]:=fN 1 Tryz.func106 aE2
noncomputable def IS:SC:=aQ Tryz.f107
noncomputable def aAp:Nat->Code:=lpOf Tryz.f107
theorem Z9:aL (aO Tryz.f107)=true:=kr
theorem aAm:FN 107 Tryz.f107 [] ([]) aAp IS false [.tmp 7]:=fN 0 Tryz.func107 Z9
noncomputable def aDX:SC:=aQ Tryz.f122
noncomputable def pZ:Nat->Code:=lpOf Tryz.f122
theorem N6:aL (aO Tryz.f122)=true:=kr
theorem aLV:FN 122 Tryz.f122 [] Bz9 pZ aDX false (Tryz.f122.results.toList):=fN 0 Tryz.func122 N6
noncomputable def H6:SC:=a6 Tryz.f122 0
theorem MT:ST pZ 0 H6:=sT N6
noncomputable def ID:SC:=a6 Tryz.f122 1
theorem MU:ST pZ 1 ID:=sT N6
noncomputable def SF:SC:=aQ Tryz.f123
noncomputable def nF:Nat->Code:=lpOf Tryz.f123
theorem BN:aL (aO Tryz.f123)=true:=kr
theorem aFY:FN 123 Tryz.f123 [] Bz26 nF SF false [.tmp 2,.tmp 3]:=fN 2 Tryz.func123 BN
noncomputable def rG:SC:=a6 Tryz.f123 0
theorem sL:ST nF 0 rG:=sT BN
noncomputable def zS:SC:=a6 Tryz.f123 1
theorem EK:ST nF 1 zS:=sT BN
noncomputable def OI:SC:=aQ Tryz.f124
noncomputable def aE9:Nat->Code:=lpOf Tryz.f124
theorem aDP:aL (aO Tryz.f124)=true:=kr
theorem aDV:FN 124 Tryz.f124 [] ([]) aE9 OI false [.tmp 4]:=fN 1 Tryz.func124 aDP
noncomputable def aGD:SC:=aQ Tryz.f125
noncomputable def RH:Nat->Code:=lpOf Tryz.f125
theorem aDN:aL (aO Tryz.f125)=true:=kr
theorem aOm:FN 125 Tryz.f125 [] Bz49 RH aGD false [.tmp 6]:=fN 1 Tryz.func125 aDN
noncomputable def OB:SC:=a6 Tryz.f125 0
theorem O6:ST RH 0 OB:=sT aDN
noncomputable def oP:SC:=aQ Tryz.f126
noncomputable def mU:Nat->Code:=lpOf Tryz.f126
theorem FX:aL (aO Tryz.f126)=true:=kr
theorem uR:FN 126 Tryz.f126 (W8 (W2 [2])) Bz8 mU oP false [.tmp 9]:=fN 0 Tryz.func126 FX
noncomputable def cL:SC:=a6 Tryz.f126 0
theorem cF:ST mU 0 cL:=sT FX
noncomputable def XE:SC:=aQ Tryz.f127
noncomputable def FA:Nat->Code:=lpOf Tryz.f127
theorem SJ:aL (aO Tryz.f127)=true:=kr
theorem aH3:FN 127 Tryz.f127 [0,0,0,2] Bz43 FA XE false [.tmp 2]:=fN 1 Tryz.func127 SJ
noncomputable def BM:SC:=a6 Tryz.f127 0
theorem FL:ST FA 0 BM:=sT SJ
noncomputable def aBT:SC:=aQ Tryz.f128
noncomputable def YT:Nat->Code:=lpOf Tryz.f128
theorem aHg:aL (aO Tryz.f128)=true:=kr
theorem aHf:FN 128 Tryz.f128 [] Bz14 YT aBT false [.tmp 4]:=fN 1 Tryz.func128 aHg
noncomputable def GU:SC:=a6 Tryz.f128 0
theorem E7:ST YT 0 GU:=sT aHg
noncomputable def aAY:SC:=aQ Tryz.f129
noncomputable def sS:Nat->Code:=lpOf Tryz.f129
theorem IT:aL (aO Tryz.f129)=true:=kr
theorem aJh:FN 129 Tryz.f129 [] Bz39 sS aAY false [.tmp 2]:=fN 2 Tryz.func129 IT
noncomputable def FJ:SC:=a6 Tryz.f129 0
theorem H1:ST sS 0 FJ:=sT IT
noncomputable def EV:SC:=a6 Tryz.f129 1
theorem IA:ST sS 1 EV:=sT IT
noncomputable def aBd:SC:=aQ Tryz.f130
noncomputable def r7:Nat->Code:=lpOf Tryz.f130
theorem HX:aL (aO Tryz.f130)=true:=kr
theorem aKo:FN 130 Tryz.f130 [] Bz17 r7 aBd false [.tmp 6]:=fN 2 Tryz.func130 HX
noncomputable def E1:SC:=a6 Tryz.f130 0
theorem HZ:ST r7 0 E1:=sT HX
noncomputable def EU:SC:=a6 Tryz.f130 1
theorem HN:ST r7 1 EU:=sT HX
noncomputable def mL:SC:=aQ Tryz.f131
noncomputable def aKr:Nat->Code:=lpOf Tryz.f131
theorem aLa:aL (aO Tryz.f131)=true:=kr
theorem nN:FN 131 Tryz.f131 [] (Z2 (U1 (Z2 (Z1 (U2 (Z32 (Z16 (Z8 ([]))))))))) aKr mL false [.tmp 6]:=fN 1 Tryz.func131 aLa
noncomputable def VW:SC:=aQ Tryz.f132
noncomputable def E6:Nat->Code:=lpOf Tryz.f132
theorem SS:aL (aO Tryz.f132)=true:=kr
theorem aH2:FN 132 Tryz.f132 [] Bz53 E6 VW false [.tmp 4]:=fN 2 Tryz.func132 SS
noncomputable def BS:SC:=a6 Tryz.f132 0
theorem FY:ST E6 0 BS:=sT SS
noncomputable def aFg:SC:=aQ Tryz.f133
noncomputable def p9:Nat->Code:=lpOf Tryz.f133
theorem NK:aL (aO Tryz.f133)=true:=kr
theorem aLr:FN 133 Tryz.f133 [] Bz19 p9 aFg false []:=fN 0 Tryz.func133 NK
noncomputable def yZ:SC:=a6 Tryz.f133 0
theorem y4:ST p9 0 yZ:=sT NK
noncomputable def rU:SC:=a6 Tryz.f133 1
theorem rC:ST p9 1 rU:=sT NK
noncomputable def WI:SC:=aQ Tryz.f134
noncomputable def EM:Nat->Code:=lpOf Tryz.f134
theorem S2:aL (aO Tryz.f134)=true:=kr
theorem aIE:FN 134 Tryz.f134 [] Bz62 EM WI false [.tmp 4]:=fN 1 Tryz.func134 S2
noncomputable def BX:SC:=a6 Tryz.f134 0
theorem F6:ST EM 0 BX:=sT S2
noncomputable def XS:SC:=aQ Tryz.f135
noncomputable def pK:Nat->Code:=lpOf Tryz.f135
theorem E9:aL (aO Tryz.f135)=true:=kr
theorem aIe:FN 135 Tryz.f135 [] Bz22 pK XS false [.tmp 10]:=fN 2 Tryz.func135 E9
noncomputable def BC:SC:=a6 Tryz.f135 0
theorem F5:ST pK 0 BC:=sT E9
noncomputable def n4:SC:=a6 Tryz.f135 1
theorem m3:ST pK 1 n4:=sT E9
noncomputable def vU:SC:=aQ Tryz.f136
noncomputable def BT:Nat->Code:=lpOf Tryz.f136
theorem P5:aL (aO Tryz.f136)=true:=kr
theorem BP:FN 136 Tryz.f136 [] Bz63 BT vU false [.tmp 2]:=fN 1 Tryz.func136 P5
noncomputable def lS:SC:=a6 Tryz.f136 0
theorem mD:ST BT 0 lS:=sT P5
noncomputable def V9:SC:=aQ Tryz.f145
noncomputable def lL:Nat->Code:=lpOf Tryz.f145
theorem FC:aL (aO Tryz.f145)=true:=kr
theorem aIf:FN 145 Tryz.f145 [] Bz12 lL V9 false [.tmp 4,.tmp 5]:=fN 2 Tryz.func145 FC
noncomputable def tO:SC:=a6 Tryz.f145 0
theorem uQ:ST lL 0 tO:=sT FC
noncomputable def nG:SC:=a6 Tryz.f145 1
theorem mY:ST lL 1 nG:=sT FC
noncomputable def O9:SC:=aQ Tryz.f146
noncomputable def yR:Nat->Code:=lpOf Tryz.f146
theorem MX:aL (aO Tryz.f146)=true:=kr
theorem aDh:FN 146 Tryz.f146 [] (U1 (Z1 (U4 (Z16 ([]))))) yR O9 false [.tmp 2,.tmp 3]:=fN 1 Tryz.func146 MX
noncomputable def wP:SC:=a6 Tryz.f146 0
theorem A7:ST yR 0 wP:=sT MX
noncomputable def aCj:SC:=aQ Tryz.f147
noncomputable def aPC:Nat->Code:=lpOf Tryz.f147
theorem aPI:aL (aO Tryz.f147)=true:=kr
theorem aGl:FN 147 Tryz.f147 [] ([]) aPC aCj false [.tmp 6]:=fN 1 Tryz.func147 aPI
noncomputable def aLc:SC:=aQ Tryz.f148
noncomputable def aPZ:Nat->Code:=lpOf Tryz.f148
theorem aPe:aL (aO Tryz.f148)=true:=kr
theorem aPa:FN 148 Tryz.f148 [] ([]) aPZ aLc false [.tmp 4]:=fN 1 Tryz.func148 aPe
noncomputable def pO:SC:=aQ Tryz.f149
noncomputable def fJ:Nat->Code:=lpOf Tryz.f149
theorem oE:aL (aO Tryz.f149)=true:=kr
theorem ED:FN 149 Tryz.f149 [] Bz44 fJ pO false []:=fN 0 Tryz.func149 oE
noncomputable def eX:SC:=a6 Tryz.f149 0
theorem gJ:ST fJ 0 eX:=sT oE
noncomputable def aAU:SC:=aQ Tryz.f150
noncomputable def lE:Nat->Code:=lpOf Tryz.f150
theorem y9:aL (aO Tryz.f150)=true:=kr
theorem aI1:FN 150 Tryz.f150 [] Bz6 lE aAU false [.tmp 8]:=fN 2 Tryz.func150 y9
noncomputable def E5:SC:=a6 Tryz.f150 0
theorem JR:ST lE 0 E5:=sT y9
noncomputable def FG:SC:=a6 Tryz.f150 1
theorem J1:ST lE 1 FG:=sT y9
noncomputable def EW:SC:=a6 Tryz.f150 2
theorem JA:ST lE 2 EW:=sT y9
noncomputable def aJe:SC:=aQ Tryz.f151
noncomputable def aPj:Nat->Code:=lpOf Tryz.f151
theorem aPB:aL (aO Tryz.f151)=true:=kr
theorem aP6:FN 151 Tryz.f151 [] ([]) aPj aJe false [.tmp 6]:=fN 1 Tryz.func151 aPB
noncomputable def RG:SC:=aQ Tryz.f152
noncomputable def vL:Nat->Code:=lpOf Tryz.f152
theorem NI:aL (aO Tryz.f152)=true:=kr
theorem aAE:FN 152 Tryz.f152 [] Bz18 vL RG false [.tmp 6]:=fN 1 Tryz.func152 NI
noncomputable def AE:SC:=a6 Tryz.f152 0
theorem zY:ST vL 0 AE:=sT NI
noncomputable def x9:SC:=a6 Tryz.f152 1
theorem AC:ST vL 1 x9:=sT NI
noncomputable def GH:SC:=aQ Tryz.f154
noncomputable def N2:Nat->Code:=lpOf Tryz.f154
theorem aBm:aL (aO Tryz.f154)=true:=kr
theorem NG:FN 154 Tryz.f154 [] Bz45 N2 GH false [.tmp 8]:=fN 1 Tryz.func154 aBm
noncomputable def y3:SC:=a6 Tryz.f154 0
theorem zM:ST N2 0 y3:=sT aBm
noncomputable def aGr:SC:=aQ Tryz.f155
noncomputable def aNo:Nat->Code:=lpOf Tryz.f155
theorem aNR:aL (aO Tryz.f155)=true:=kr
theorem aNH:FN 155 Tryz.f155 [] ([]) aNo aGr false [.tmp 2]:=fN 1 Tryz.func155 aNR
noncomputable def aAt:SC:=aQ Tryz.f156
noncomputable def KD:Nat->Code:=lpOf Tryz.f156
theorem XL:aL (aO Tryz.f156)=true:=kr
theorem aKt:FN 156 Tryz.f156 [] Bz57 KD aAt false [.tmp 4]:=fN 1 Tryz.func156 XL
noncomputable def vQ:SC:=a6 Tryz.f156 0
theorem wO:ST KD 0 vQ:=sT XL
noncomputable def S1:SC:=aQ Tryz.f157
noncomputable def aFD:Nat->Code:=lpOf Tryz.f157
theorem aFm:aL (aO Tryz.f157)=true:=kr
theorem aFG:FN 157 Tryz.f157 [] (Z2 (U2 (Z4 (U4 (Z32 (Z32 (Z2 (Z1 ([]))))))))) aFD S1 false [.tmp 8]:=fN 2 Tryz.func157 aFm
end
end Ev
end Go.Proofs.YthlkcebdfbjdoaaGreat
