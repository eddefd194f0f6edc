/-
  Each function's code as an equation. Written by a program.
-/
import Derived.Test.YtppdfjdfjfoddaaDoorEnv
set_option maxRecDepth 100000
namespace Go.Proofs.YtppdfjdfjfoddaaDoor
namespace Ev
section
variable {R:Type} {call:a9} {L nf n:Nat} {thaw:List Nat} {live m:List Bool} {s args:List A} {h:H} {k:Exit → List A → H → Option R}
noncomputable def pR:SC:=bR Tryd.f3
noncomputable def c7:Nat → Code:=lpOf Tryd.f3
theorem oO:aP (a8 Tryd.f3) = true:=by kernel_rfl
theorem tB:aA env L (n + 1) 3 args h = aN env (aA env L n) L h.length [] (Z2 (U8 (Z32 (Z32 (Z16 (Z4 (Z2 (Z1 ([]))))))))) c7 pR (args ++ List.replicate (Tryd.f3.ntmps - args.length) (.d .undef)) h (kFin env.P h.length false [.tmp 2]) :=
 bF (mode:=1) (by kernel_rfl) Tryd.func3 (by kernel_rfl) (by kernel_rfl) oO (by kernel_rfl) (by kernel_rfl)
noncomputable def r8:SC:=b8 Tryd.f3 0
theorem uX:aO env call L nf thaw live (c7 0) m (n + 1) s h k = aN env call L nf thaw live c7 r8 s h (b7 env call L nf thaw live (c7 0) m n k) :=
 aQ oO (by kernel_rfl)
noncomputable def oA:SC:=b8 Tryd.f3 1
theorem pK:aO env call L nf thaw live (c7 1) m (n + 1) s h k = aN env call L nf thaw live c7 oA s h (b7 env call L nf thaw live (c7 1) m n k) :=
 aQ oO (by kernel_rfl)
noncomputable def n9:SC:=b8 Tryd.f3 2
theorem pE:aO env call L nf thaw live (c7 2) m (n + 1) s h k = aN env call L nf thaw live c7 n9 s h (b7 env call L nf thaw live (c7 2) m n k) :=
 aQ oO (by kernel_rfl)
noncomputable def wQ:SC:=bR Tryd.f5
noncomputable def MC:Nat → Code:=lpOf Tryd.f5
theorem J3:aP (a8 Tryd.f5) = true:=by kernel_rfl
theorem J7:aA env L (n + 1) 5 args h = aN env (aA env L n) L h.length [] ([]) MC wQ (args ++ List.replicate (Tryd.f5.ntmps - args.length) (.d .undef)) h (kFin env.P h.length false Tryd.f5.results.toList) :=
 bF (mode:=2) (by kernel_rfl) Tryd.func5 (by kernel_rfl) (by kernel_rfl) J3 (by kernel_rfl) (by kernel_rfl)
noncomputable def t6:SC:=bR Tryd.f6
noncomputable def eV:Nat → Code:=lpOf Tryd.f6
theorem sY:aP (a8 Tryd.f6) = true:=by kernel_rfl
theorem AC:aA env L (n + 1) 6 args h = aN env (aA env L n) L h.length [] (Z1 (U4 (U1 (Z8 (U2 (Z16 (Z8 (Z4 (Z2 (Z1 ([]))))))))))) eV t6 (args ++ List.replicate (Tryd.f6.ntmps - args.length) (.d .undef)) h (kFin env.P h.length true [.tmp 2]) :=
 bF (mode:=3) (by kernel_rfl) Tryd.func6 (by kernel_rfl) (by kernel_rfl) sY (by kernel_rfl) (by kernel_rfl)
noncomputable def rW:SC:=b8 Tryd.f6 0
theorem vM:aO env call L nf thaw live (eV 0) m (n + 1) s h k = aN env call L nf thaw live eV rW s h (b7 env call L nf thaw live (eV 0) m n k) :=
 aQ sY (by kernel_rfl)
noncomputable def kV:SC:=b8 Tryd.f6 1
theorem lQ:aO env call L nf thaw live (eV 1) m (n + 1) s h k = aN env call L nf thaw live eV kV s h (b7 env call L nf thaw live (eV 1) m n k) :=
 aQ sY (by kernel_rfl)
noncomputable def aAB:SC:=bR Tryd.f7
noncomputable def vE:Nat → Code:=lpOf Tryd.f7
theorem V0:aP (a8 Tryd.f7) = true:=by kernel_rfl
theorem aHa:aA env L (n + 1) 7 args h = aN env (aA env L n) L h.length [] (U2 (Z2 (U2 (Z16 (Z4 ([])))))) vE aAB (args ++ List.replicate (Tryd.f7.ntmps - args.length) (.d .undef)) h (kFin env.P h.length false [.tmp 4]) :=
 bF (mode:=1) (by kernel_rfl) Tryd.func7 (by kernel_rfl) (by kernel_rfl) V0 (by kernel_rfl) (by kernel_rfl)
noncomputable def GC:SC:=b8 Tryd.f7 0
theorem KM:aO env call L nf thaw live (vE 0) m (n + 1) s h k = aN env call L nf thaw live vE GC s h (b7 env call L nf thaw live (vE 0) m n k) :=
 aQ V0 (by kernel_rfl)
noncomputable def tZ:SC:=bR Tryd.f8
noncomputable def eW:Nat → Code:=lpOf Tryd.f8
theorem sL:aP (a8 Tryd.f8) = true:=by kernel_rfl
theorem B3:aA env L (n + 1) 8 args h = aN env (aA env L n) L h.length [] (Z1 (U4 (U1 (Z32 (Z8 (Z1 ([]))))))) eW tZ (args ++ List.replicate (Tryd.f8.ntmps - args.length) (.d .undef)) h (kFin env.P h.length false [.tmp 2]) :=
 bF (mode:=2) (by kernel_rfl) Tryd.func8 (by kernel_rfl) (by kernel_rfl) sL (by kernel_rfl) (by kernel_rfl)
noncomputable def rT:SC:=b8 Tryd.f8 0
theorem vJ:aO env call L nf thaw live (eW 0) m (n + 1) s h k = aN env call L nf thaw live eW rT s h (b7 env call L nf thaw live (eW 0) m n k) :=
 aQ sL (by kernel_rfl)
noncomputable def kS:SC:=b8 Tryd.f8 1
theorem lW:aO env call L nf thaw live (eW 1) m (n + 1) s h k = aN env call L nf thaw live eW kS s h (b7 env call L nf thaw live (eW 1) m n k) :=
 aQ sL (by kernel_rfl)
noncomputable def jE:SC:=bR Tryd.f9
noncomputable def fC:Nat → Code:=lpOf Tryd.f9
theorem tY:aP (a8 Tryd.f9) = true:=by kernel_rfl
theorem kA:aA env L (n + 1) 9 args h = aN env (aA env L n) L h.length [] (Z1 (U2 (U1 (Z32 (Z2 (U2 (U1 (Z4 (Z2 (Z1 (U2 (U1 (Z8 (Z4 (Z2 ([])))))))))))))))) fC jE (args ++ List.replicate (Tryd.f9.ntmps - args.length) (.d .undef)) h (kFin env.P h.length false [.tmp 2]) :=
 bF (mode:=1) (by kernel_rfl) Tryd.func9 (by kernel_rfl) (by kernel_rfl) tY (by kernel_rfl) (by kernel_rfl)
noncomputable def lZ:SC:=b8 Tryd.f9 0
theorem mV:aO env call L nf thaw live (fC 0) m (n + 1) s h k = aN env call L nf thaw live fC lZ s h (b7 env call L nf thaw live (fC 0) m n k) :=
 aQ tY (by kernel_rfl)
noncomputable def mE:SC:=b8 Tryd.f9 1
theorem mY:aO env call L nf thaw live (fC 1) m (n + 1) s h k = aN env call L nf thaw live fC mE s h (b7 env call L nf thaw live (fC 1) m n k) :=
 aQ tY (by kernel_rfl)
noncomputable def ME:SC:=bR Tryd.f10
noncomputable def YO:Nat → Code:=lpOf Tryd.f10
theorem YX:aP (a8 Tryd.f10) = true:=by kernel_rfl
theorem YZ:aA env L (n + 1) 10 args h = aN env (aA env L n) L h.length [] ([]) YO ME (args ++ List.replicate (Tryd.f10.ntmps - args.length) (.d .undef)) h (kFin env.P h.length false [.tmp 2]) :=
 bF (mode:=2) (by kernel_rfl) Tryd.func10 (by kernel_rfl) (by kernel_rfl) YX (by kernel_rfl) (by kernel_rfl)
noncomputable def aHy:SC:=bR Tryd.f11
noncomputable def qG:Nat → Code:=lpOf Tryd.f11
theorem W7:aP (a8 Tryd.f11) = true:=by kernel_rfl
theorem aLF:aA env L (n + 1) 11 args h = aN env (aA env L n) L h.length [] (Z1 (U2 (U1 (Z2 (U4 (Z16 (Z8 (Z4 (Z2 ([])))))))))) qG aHy (args ++ List.replicate (Tryd.f11.ntmps - args.length) (.d .undef)) h (kFin env.P h.length false [.tmp 6]) :=
 bF (mode:=1) (by kernel_rfl) Tryd.func11 (by kernel_rfl) (by kernel_rfl) W7 (by kernel_rfl) (by kernel_rfl)
noncomputable def RH:SC:=b8 Tryd.f11 0
theorem UI:aO env call L nf thaw live (qG 0) m (n + 1) s h k = aN env call L nf thaw live qG RH s h (b7 env call L nf thaw live (qG 0) m n k) :=
 aQ W7 (by kernel_rfl)
noncomputable def H9:SC:=b8 Tryd.f11 1
theorem GU:aO env call L nf thaw live (qG 1) m (n + 1) s h k = aN env call L nf thaw live qG H9 s h (b7 env call L nf thaw live (qG 1) m n k) :=
 aQ W7 (by kernel_rfl)
noncomputable def FT:SC:=bR Tryd.f20
noncomputable def AY:Nat → Code:=lpOf Tryd.f20
theorem aCy:aP (a8 Tryd.f20) = true:=by kernel_rfl
theorem HY:aA env L (n + 1) 20 args h = aN env (aA env L n) L h.length [] (U1 (Z1 (U2 (U1 (Z16 (Z4 (Z2 (Z1 ([]))))))))) AY FT (args ++ List.replicate (Tryd.f20.ntmps - args.length) (.d .undef)) h (kFin env.P h.length false Tryd.f20.results.toList) :=
 bF (mode:=0) (by kernel_rfl) Tryd.func20 (by kernel_rfl) (by kernel_rfl) aCy (by kernel_rfl) (by kernel_rfl)
noncomputable def O0:SC:=b8 Tryd.f20 0
theorem Q0:aO env call L nf thaw live (AY 0) m (n + 1) s h k = aN env call L nf thaw live AY O0 s h (b7 env call L nf thaw live (AY 0) m n k) :=
 aQ aCy (by kernel_rfl)
noncomputable def O9:SC:=bR Tryd.f21
noncomputable def aHv:Nat → Code:=lpOf Tryd.f21
theorem aHu:aP (a8 Tryd.f21) = true:=by kernel_rfl
theorem XC:aA env L (n + 1) 21 args h = aN env (aA env L n) L h.length [] ([]) aHv O9 (args ++ List.replicate (Tryd.f21.ntmps - args.length) (.d .undef)) h (kFin env.P h.length true [.tmp 2]) :=
 bF (mode:=2) (by kernel_rfl) Tryd.func21 (by kernel_rfl) (by kernel_rfl) aHu (by kernel_rfl) (by kernel_rfl)
noncomputable def lV:SC:=bR Tryd.f22
noncomputable def aBz:Nat → Code:=lpOf Tryd.f22
theorem aA9:aP (a8 Tryd.f22) = true:=by kernel_rfl
theorem nD:aA env L (n + 1) 22 args h = aN env (aA env L n) L h.length [] ([]) aBz lV (args ++ List.replicate (Tryd.f22.ntmps - args.length) (.d .undef)) h (kFin env.P h.length false [.tmp 6,.tmp 7]) :=
 bF (mode:=1) (by kernel_rfl) Tryd.func22 (by kernel_rfl) (by kernel_rfl) aA9 (by kernel_rfl) (by kernel_rfl)
noncomputable def pX:SC:=bR Tryd.f23
noncomputable def y9:Nat → Code:=lpOf Tryd.f23
theorem zC:aP (a8 Tryd.f23) = true:=by kernel_rfl
theorem y3:aA env L (n + 1) 23 args h = aN env (aA env L n) L h.length [] ([]) y9 pX (args ++ List.replicate (Tryd.f23.ntmps - args.length) (.d .undef)) h (kFin env.P h.length false [.tmp 4]) :=
 bF (mode:=1) (by kernel_rfl) Tryd.func23 (by kernel_rfl) (by kernel_rfl) zC (by kernel_rfl) (by kernel_rfl)
noncomputable def jL:SC:=bR Tryd.f24
noncomputable def nB:Nat → Code:=lpOf Tryd.f24
theorem C3:aP (a8 Tryd.f24) = true:=by kernel_rfl
theorem kB:aA env L (n + 1) 24 args h = aN env (aA env L n) L h.length [] (Z1 (U4 (Z32 (Z4 (Z2 (Z1 ([]))))))) nB jL (args ++ List.replicate (Tryd.f24.ntmps - args.length) (.d .undef)) h (kFin env.P h.length false [.tmp 2]) :=
 bF (mode:=1) (by kernel_rfl) Tryd.func24 (by kernel_rfl) (by kernel_rfl) C3 (by kernel_rfl) (by kernel_rfl)
noncomputable def oQ:SC:=b8 Tryd.f24 0
theorem p8:aO env call L nf thaw live (nB 0) m (n + 1) s h k = aN env call L nf thaw live nB oQ s h (b7 env call L nf thaw live (nB 0) m n k) :=
 aQ C3 (by kernel_rfl)
noncomputable def qI:SC:=bR Tryd.f25
noncomputable def aBi:Nat → Code:=lpOf Tryd.f25
theorem aAU:aP (a8 Tryd.f25) = true:=by kernel_rfl
theorem s9:aA env L (n + 1) 25 args h = aN env (aA env L n) L h.length [] ([]) aBi qI (args ++ List.replicate (Tryd.f25.ntmps - args.length) (.d .undef)) h (kFin env.P h.length false [.tmp 6,.tmp 7]) :=
 bF (mode:=1) (by kernel_rfl) Tryd.func25 (by kernel_rfl) (by kernel_rfl) aAU (by kernel_rfl) (by kernel_rfl)
noncomputable def VZ:SC:=bR Tryd.f26
noncomputable def BG:Nat → Code:=lpOf Tryd.f26
theorem aB6:aP (a8 Tryd.f26) = true:=by kernel_rfl
theorem aBJ:aA env L (n + 1) 26 args h = aN env (aA env L n) L h.length [] (U2 (Z2 (U2 (Z8 (Z4 ([])))))) BG VZ (args ++ List.replicate (Tryd.f26.ntmps - args.length) (.d .undef)) h (kFin env.P h.length false [.tmp 4]) :=
 bF (mode:=1) (by kernel_rfl) Tryd.func26 (by kernel_rfl) (by kernel_rfl) aB6 (by kernel_rfl) (by kernel_rfl)
noncomputable def EV:SC:=b8 Tryd.f26 0
theorem D7:aO env call L nf thaw live (BG 0) m (n + 1) s h k = aN env call L nf thaw live BG EV s h (b7 env call L nf thaw live (BG 0) m n k) :=
 aQ aB6 (by kernel_rfl)
noncomputable def QA:SC:=bR Tryd.f27
noncomputable def aDu:Nat → Code:=lpOf Tryd.f27
theorem aCm:aP (a8 Tryd.f27) = true:=by kernel_rfl
theorem aDn:aA env L (n + 1) 27 args h = aN env (aA env L n) L h.length [] ([]) aDu QA (args ++ List.replicate (Tryd.f27.ntmps - args.length) (.d .undef)) h (kFin env.P h.length false [.tmp 2]) :=
 bF (mode:=1) (by kernel_rfl) Tryd.func27 (by kernel_rfl) (by kernel_rfl) aCm (by kernel_rfl) (by kernel_rfl)
noncomputable def TW:SC:=bR Tryd.f28
noncomputable def pC:Nat → Code:=lpOf Tryd.f28
theorem Q1:aP (a8 Tryd.f28) = true:=by kernel_rfl
theorem aDV:aA env L (n + 1) 28 args h = aN env (aA env L n) L h.length [0,0,0,2] (U1 (Z1 (U2 (Z1 (U1 (Z8 (Z2 (Z1 ([]))))))))) pC TW (args ++ List.replicate (Tryd.f28.ntmps - args.length) (.d .undef)) h (kFin env.P h.length false [.tmp 2]) :=
 bF (mode:=2) (by kernel_rfl) Tryd.func28 (by kernel_rfl) (by kernel_rfl) Q1 (by kernel_rfl) (by kernel_rfl)
noncomputable def uC:SC:=b8 Tryd.f28 0
theorem uJ:aO env call L nf thaw live (pC 0) m (n + 1) s h k = aN env call L nf thaw live pC uC s h (b7 env call L nf thaw live (pC 0) m n k) :=
 aQ Q1 (by kernel_rfl)
noncomputable def TG:SC:=bR Tryd.f29
noncomputable def dP:Nat → Code:=lpOf Tryd.f29
theorem rV:aP (a8 Tryd.f29) = true:=by kernel_rfl
theorem aD3:aA env L (n + 1) 29 args h = aN env (aA env L n) L h.length [] (Z1 (U2 (U1 (Z1 (U4 (Z1 (U1 (Z8 (Z1 (U2 (Z16 (U2 (U1 (Z8 (Z1 (U2 (U1 (Z32 (Z4 (Z2 ([]))))))))))))))))))))) dP TG (args ++ List.replicate (Tryd.f29.ntmps - args.length) (.d .undef)) h (kFin env.P h.length false [.tmp 2]) :=
 bF (mode:=2) (by kernel_rfl) Tryd.func29 (by kernel_rfl) (by kernel_rfl) rV (by kernel_rfl) (by kernel_rfl)
noncomputable def uH:SC:=b8 Tryd.f29 0
theorem uT:aO env call L nf thaw live (dP 0) m (n + 1) s h k = aN env call L nf thaw live dP uH s h (b7 env call L nf thaw live (dP 0) m n k) :=
 aQ rV (by kernel_rfl)
noncomputable def AM:SC:=b8 Tryd.f29 1
theorem E7:aO env call L nf thaw live (dP 1) m (n + 1) s h k = aN env call L nf thaw live dP AM s h (b7 env call L nf thaw live (dP 1) m n k) :=
 aQ rV (by kernel_rfl)
noncomputable def uB:SC:=b8 Tryd.f29 2
theorem uO:aO env call L nf thaw live (dP 2) m (n + 1) s h k = aN env call L nf thaw live dP uB s h (b7 env call L nf thaw live (dP 2) m n k) :=
 aQ rV (by kernel_rfl)
noncomputable def AT:SC:=b8 Tryd.f29 3
theorem F0:aO env call L nf thaw live (dP 3) m (n + 1) s h k = aN env call L nf thaw live dP AT s h (b7 env call L nf thaw live (dP 3) m n k) :=
 aQ rV (by kernel_rfl)
noncomputable def aJX:SC:=bR Tryd.f30
noncomputable def aP5:Nat → Code:=lpOf Tryd.f30
theorem aP1:aP (a8 Tryd.f30) = true:=by kernel_rfl
theorem aO4:aA env L (n + 1) 30 args h = aN env (aA env L n) L h.length [] ([]) aP5 aJX (args ++ List.replicate (Tryd.f30.ntmps - args.length) (.d .undef)) h (kFin env.P h.length false [.tmp 4]) :=
 bF (mode:=1) (by kernel_rfl) Tryd.func30 (by kernel_rfl) (by kernel_rfl) aP1 (by kernel_rfl) (by kernel_rfl)
noncomputable def aAj:SC:=bR Tryd.f34
noncomputable def gK:Nat → Code:=lpOf Tryd.f34
theorem B0:aP (a8 Tryd.f34) = true:=by kernel_rfl
theorem aHG:aA env L (n + 1) 34 args h = aN env (aA env L n) L h.length [] (Z2 (U4 (U1 (Z8 (Z2 (Z1 (U2 (U1 (Z4 (U1 (Z8 (Z1 (U2 (U1 (Z16 ([])))))))))))))))) gK aAj (args ++ List.replicate (Tryd.f34.ntmps - args.length) (.d .undef)) h (kFin env.P h.length false [.tmp 2]) :=
 bF (mode:=2) (by kernel_rfl) Tryd.func34 (by kernel_rfl) (by kernel_rfl) B0 (by kernel_rfl) (by kernel_rfl)
noncomputable def GW:SC:=b8 Tryd.f34 0
theorem JY:aO env call L nf thaw live (gK 0) m (n + 1) s h k = aN env call L nf thaw live gK GW s h (b7 env call L nf thaw live (gK 0) m n k) :=
 aQ B0 (by kernel_rfl)
noncomputable def GD:SC:=b8 Tryd.f34 1
theorem KT:aO env call L nf thaw live (gK 1) m (n + 1) s h k = aN env call L nf thaw live gK GD s h (b7 env call L nf thaw live (gK 1) m n k) :=
 aQ B0 (by kernel_rfl)
noncomputable def GX:SC:=b8 Tryd.f34 2
theorem K0:aO env call L nf thaw live (gK 2) m (n + 1) s h k = aN env call L nf thaw live gK GX s h (b7 env call L nf thaw live (gK 2) m n k) :=
 aQ B0 (by kernel_rfl)
noncomputable def SX:SC:=bR Tryd.f40
noncomputable def rP:Nat → Code:=lpOf Tryd.f40
theorem PW:aP (a8 Tryd.f40) = true:=by kernel_rfl
theorem aEl:aA env L (n + 1) 40 args h = aN env (aA env L n) L h.length [] (U1 (Z1 (U2 (U1 (Z8 (Z4 (Z1 ([])))))))) rP SX (args ++ List.replicate (Tryd.f40.ntmps - args.length) (.d .undef)) h (kFin env.P h.length false [.tmp 2]) :=
 bF (mode:=2) (by kernel_rfl) Tryd.func40 (by kernel_rfl) (by kernel_rfl) PW (by kernel_rfl) (by kernel_rfl)
noncomputable def uG:SC:=b8 Tryd.f40 0
theorem vL:aO env call L nf thaw live (rP 0) m (n + 1) s h k = aN env call L nf thaw live rP uG s h (b7 env call L nf thaw live (rP 0) m n k) :=
 aQ PW (by kernel_rfl)
noncomputable def aAS:SC:=bR Tryd.f41
noncomputable def aL1:Nat → Code:=lpOf Tryd.f41
theorem aNF:aP (a8 Tryd.f41) = true:=by kernel_rfl
theorem aFB:aA env L (n + 1) 41 args h = aN env (aA env L n) L h.length [] ([]) aL1 aAS (args ++ List.replicate (Tryd.f41.ntmps - args.length) (.d .undef)) h (kFin env.P h.length false [.tmp 6]) :=
 bF (mode:=1) (by kernel_rfl) Tryd.func41 (by kernel_rfl) (by kernel_rfl) aNF (by kernel_rfl) (by kernel_rfl)
noncomputable def SM:SC:=bR Tryd.f47
noncomputable def aJi:Nat → Code:=lpOf Tryd.f47
theorem aJf:aP (a8 Tryd.f47) = true:=by kernel_rfl
theorem aAk:aA env L (n + 1) 47 args h = aN env (aA env L n) L h.length [] ([]) aJi SM (args ++ List.replicate (Tryd.f47.ntmps - args.length) (.d .undef)) h (kFin env.P h.length false Tryd.f47.results.toList) :=
 bF (mode:=0) (by kernel_rfl) Tryd.func47 (by kernel_rfl) (by kernel_rfl) aJf (by kernel_rfl) (by kernel_rfl)
noncomputable def rS:SC:=bR Tryd.f48
noncomputable def aDw:Nat → Code:=lpOf Tryd.f48
theorem aB5:aP (a8 Tryd.f48) = true:=by kernel_rfl
theorem t8:aA env L (n + 1) 48 args h = aN env (aA env L n) L h.length [] ([]) aDw rS (args ++ List.replicate (Tryd.f48.ntmps - args.length) (.d .undef)) h (kFin env.P h.length false [.tmp 4]) :=
 bF (mode:=0) (by kernel_rfl) Tryd.func48 (by kernel_rfl) (by kernel_rfl) aB5 (by kernel_rfl) (by kernel_rfl)
noncomputable def kG:SC:=bR Tryd.f49
noncomputable def aGr:Nat → Code:=lpOf Tryd.f49
theorem aGA:aP (a8 Tryd.f49) = true:=by kernel_rfl
theorem kL:aA env L (n + 1) 49 args h = aN env (aA env L n) L h.length [0,0,0,0,0,0,0,0,0,0,0,0,0,0,0,0,0,0,0,0,0,0,0,0,0,0,0,0,0,0,0,0,0,0,0,0,0,0,0,0,0,0,0,0,0,0,0,0,0,0,0,0,0,0,0,0,0,0,0,0,0,0,0,0,0,0,0,0,0,0,0,0,0,0,0,0,0,0,0,0,0,0,0,0,0,0,0,0,0,0,0,0,0,1002] ([]) aGr kG (args ++ List.replicate (Tryd.f49.ntmps - args.length) (.d .undef)) h (kFin env.P h.length false Tryd.f49.results.toList) :=
 bF (mode:=0) (by kernel_rfl) Tryd.func49 (by kernel_rfl) (by kernel_rfl) aGA (by kernel_rfl) (by kernel_rfl)
noncomputable def aGf:SC:=bR Tryd.f50
noncomputable def vX:Nat → Code:=lpOf Tryd.f50
theorem aDB:aP (a8 Tryd.f50) = true:=by kernel_rfl
theorem aKK:aA env L (n + 1) 50 args h = aN env (aA env L n) L h.length [] (U1 (Z1 (U2 (U1 (Z16 (Z8 (Z4 (Z2 (Z1 ([])))))))))) vX aGf (args ++ List.replicate (Tryd.f50.ntmps - args.length) (.d .undef)) h (kFin env.P h.length false Tryd.f50.results.toList) :=
 bF (mode:=0) (by kernel_rfl) Tryd.func50 (by kernel_rfl) (by kernel_rfl) aDB (by kernel_rfl) (by kernel_rfl)
noncomputable def EZ:SC:=b8 Tryd.f50 0
theorem EL:aO env call L nf thaw live (vX 0) m (n + 1) s h k = aN env call L nf thaw live vX EZ s h (b7 env call L nf thaw live (vX 0) m n k) :=
 aQ aDB (by kernel_rfl)
noncomputable def nO:SC:=bR Tryd.f51
noncomputable def vN:Nat → Code:=lpOf Tryd.f51
theorem VO:aP (a8 Tryd.f51) = true:=by kernel_rfl
theorem nR:aA env L (n + 1) 51 args h = aN env (aA env L n) L h.length [0,0,0,0,0,0,0,0,0,0,0,0,0,0,0,0,0,0,0,0,0,0,0,0,0,0,0,0,0,0,0,0,0,0,0,0,0,0,0,0,0,0,0,0,0,0,0,0,0,0,0,0,0,0,0,0,0,0,0,0,0,0,0,0,0,0,0,0,0,0,0,0,0,0,0,0,0,0,0,0,0,0,0,1002,0,0,0,0,0,0,0,0,0,0,0,0,0,0,0,0,0,0,0,0,0,1002] (Z4 (U2 (U1 (Z32 (Z32 (Z32 (Z8 (Z2 (Z1 ([])))))))))) vN nO (args ++ List.replicate (Tryd.f51.ntmps - args.length) (.d .undef)) h (kFin env.P h.length false Tryd.f51.results.toList) :=
 bF (mode:=0) (by kernel_rfl) Tryd.func51 (by kernel_rfl) (by kernel_rfl) VO (by kernel_rfl) (by kernel_rfl)
noncomputable def GO:SC:=b8 Tryd.f51 0
theorem JV:aO env call L nf thaw live (vN 0) m (n + 1) s h k = aN env call L nf thaw live vN GO s h (b7 env call L nf thaw live (vN 0) m n k) :=
 aQ VO (by kernel_rfl)
noncomputable def OU:SC:=bR Tryd.f52
noncomputable def aBx:Nat → Code:=lpOf Tryd.f52
theorem aBt:aP (a8 Tryd.f52) = true:=by kernel_rfl
theorem aBa:aA env L (n + 1) 52 args h = aN env (aA env L n) L h.length [] ([]) aBx OU (args ++ List.replicate (Tryd.f52.ntmps - args.length) (.d .undef)) h (kFin env.P h.length false [.tmp 10,.tmp 11]) :=
 bF (mode:=1) (by kernel_rfl) Tryd.func52 (by kernel_rfl) (by kernel_rfl) aBt (by kernel_rfl) (by kernel_rfl)
noncomputable def FQ:SC:=bR Tryd.f53
noncomputable def UT:Nat → Code:=lpOf Tryd.f53
theorem UL:aP (a8 Tryd.f53) = true:=by kernel_rfl
theorem UO:aA env L (n + 1) 53 args h = aN env (aA env L n) L h.length [] ([]) UT FQ (args ++ List.replicate (Tryd.f53.ntmps - args.length) (.d .undef)) h (kFin env.P h.length false [.tmp 4]) :=
 bF (mode:=0) (by kernel_rfl) Tryd.func53 (by kernel_rfl) (by kernel_rfl) UL (by kernel_rfl) (by kernel_rfl)
noncomputable def nJ:SC:=bR Tryd.f54
noncomputable def fV:Nat → Code:=lpOf Tryd.f54
theorem rD:aP (a8 Tryd.f54) = true:=by kernel_rfl
theorem q9:aA env L (n + 1) 54 args h = aN env (aA env L n) L h.length [] (U2 (Z2 (U1 (Z2 (U2 (Z8 (Z2 ([])))))))) fV nJ (args ++ List.replicate (Tryd.f54.ntmps - args.length) (.d .undef)) h (kFin env.P h.length false [.tmp 4]) :=
 bF (mode:=1) (by kernel_rfl) Tryd.func54 (by kernel_rfl) (by kernel_rfl) rD (by kernel_rfl) (by kernel_rfl)
noncomputable def iR:SC:=b8 Tryd.f54 0
theorem kD:aO env call L nf thaw live (fV 0) m (n + 1) s h k = aN env call L nf thaw live fV iR s h (b7 env call L nf thaw live (fV 0) m n k) :=
 aQ rD (by kernel_rfl)
noncomputable def QE:SC:=bR Tryd.f55
noncomputable def aCg:Nat → Code:=lpOf Tryd.f55
theorem aBY:aP (a8 Tryd.f55) = true:=by kernel_rfl
theorem aBL:aA env L (n + 1) 55 args h = aN env (aA env L n) L h.length [] ([]) aCg QE (args ++ List.replicate (Tryd.f55.ntmps - args.length) (.d .undef)) h (kFin env.P h.length false [.tmp 2]) :=
 bF (mode:=1) (by kernel_rfl) Tryd.func55 (by kernel_rfl) (by kernel_rfl) aBY (by kernel_rfl) (by kernel_rfl)
noncomputable def NW:SC:=bR Tryd.f56
noncomputable def BH:Nat → Code:=lpOf Tryd.f56
theorem aCH:aP (a8 Tryd.f56) = true:=by kernel_rfl
theorem SJ:aA env L (n + 1) 56 args h = aN env (aA env L n) L h.length [] (U1 (Z1 (U1 (Z2 (Z1 (U2 (Z16 (Z4 (Z2 (Z1 ([]))))))))))) BH NW (args ++ List.replicate (Tryd.f56.ntmps - args.length) (.d .undef)) h (kFin env.P h.length false [.tmp 6]) :=
 bF (mode:=1) (by kernel_rfl) Tryd.func56 (by kernel_rfl) (by kernel_rfl) aCH (by kernel_rfl) (by kernel_rfl)
noncomputable def xU:SC:=b8 Tryd.f56 0
theorem wA:aO env call L nf thaw live (BH 0) m (n + 1) s h k = aN env call L nf thaw live BH xU s h (b7 env call L nf thaw live (BH 0) m n k) :=
 aQ aCH (by kernel_rfl)
noncomputable def EO:SC:=bR Tryd.f57
noncomputable def aHB:Nat → Code:=lpOf Tryd.f57
theorem aHR:aP (a8 Tryd.f57) = true:=by kernel_rfl
theorem MB:aA env L (n + 1) 57 args h = aN env (aA env L n) L h.length [] ([]) aHB EO (args ++ List.replicate (Tryd.f57.ntmps - args.length) (.d .undef)) h (kFin env.P h.length false [.tmp 4]) :=
 bF (mode:=1) (by kernel_rfl) Tryd.func57 (by kernel_rfl) (by kernel_rfl) aHR (by kernel_rfl) (by kernel_rfl)
noncomputable def EU:SC:=bR Tryd.f58
noncomputable def dO:Nat → Code:=lpOf Tryd.f58
theorem uV:aP (a8 Tryd.f58) = true:=by kernel_rfl
theorem K8:aA env L (n + 1) 58 args h = aN env (aA env L n) L h.length [] (Z1 (U8 (U4 (U2 (U1 (Z32 (Z32 (Z16 (Z8 (Z2 (Z1 ([])))))))))))) dO EU (args ++ List.replicate (Tryd.f58.ntmps - args.length) (.d .undef)) h (kFin env.P h.length false [.tmp 2,.tmp 3]) :=
 bF (mode:=1) (by kernel_rfl) Tryd.func58 (by kernel_rfl) (by kernel_rfl) uV (by kernel_rfl) (by kernel_rfl)
noncomputable def GN:SC:=b8 Tryd.f58 0
theorem L6:aO env call L nf thaw live (dO 0) m (n + 1) s h k = aN env call L nf thaw live dO GN s h (b7 env call L nf thaw live (dO 0) m n k) :=
 aQ uV (by kernel_rfl)
noncomputable def yW:SC:=b8 Tryd.f58 1
theorem zJ:aO env call L nf thaw live (dO 1) m (n + 1) s h k = aN env call L nf thaw live dO yW s h (b7 env call L nf thaw live (dO 1) m n k) :=
 aQ uV (by kernel_rfl)
noncomputable def tJ:SC:=b8 Tryd.f58 2
theorem sQ:aO env call L nf thaw live (dO 2) m (n + 1) s h k = aN env call L nf thaw live dO tJ s h (b7 env call L nf thaw live (dO 2) m n k) :=
 aQ uV (by kernel_rfl)
noncomputable def tH:SC:=b8 Tryd.f58 3
theorem sX:aO env call L nf thaw live (dO 3) m (n + 1) s h k = aN env call L nf thaw live dO tH s h (b7 env call L nf thaw live (dO 3) m n k) :=
 aQ uV (by kernel_rfl)
noncomputable def aKs:SC:=bR Tryd.f59
noncomputable def aPQ:Nat → Code:=lpOf Tryd.f59
theorem aPm:aP (a8 Tryd.f59) = true:=by kernel_rfl
theorem aP3:aA env L (n + 1) 59 args h = aN env (aA env L n) L h.length [] ([]) aPQ aKs (args ++ List.replicate (Tryd.f59.ntmps - args.length) (.d .undef)) h (kFin env.P h.length false [.tmp 4]) :=
 bF (mode:=1) (by kernel_rfl) Tryd.func59 (by kernel_rfl) (by kernel_rfl) aPm (by kernel_rfl) (by kernel_rfl)
noncomputable def PR:SC:=bR Tryd.f60
noncomputable def aDq:Nat → Code:=lpOf Tryd.f60
theorem aC7:aP (a8 Tryd.f60) = true:=by kernel_rfl
theorem aCE:aA env L (n + 1) 60 args h = aN env (aA env L n) L h.length [] ([]) aDq PR (args ++ List.replicate (Tryd.f60.ntmps - args.length) (.d .undef)) h (kFin env.P h.length false [.tmp 2]) :=
 bF (mode:=1) (by kernel_rfl) Tryd.func60 (by kernel_rfl) (by kernel_rfl) aC7 (by kernel_rfl) (by kernel_rfl)
noncomputable def TS:SC:=bR Tryd.f61
noncomputable def aEm:Nat → Code:=lpOf Tryd.f61
theorem aEh:aP (a8 Tryd.f61) = true:=by kernel_rfl
theorem aEg:aA env L (n + 1) 61 args h = aN env (aA env L n) L h.length [] ([]) aEm TS (args ++ List.replicate (Tryd.f61.ntmps - args.length) (.d .undef)) h (kFin env.P h.length false [.tmp 4]) :=
 bF (mode:=0) (by kernel_rfl) Tryd.func61 (by kernel_rfl) (by kernel_rfl) aEh (by kernel_rfl) (by kernel_rfl)
noncomputable def aFA:SC:=bR Tryd.f62
noncomputable def aKF:Nat → Code:=lpOf Tryd.f62
theorem aKT:aP (a8 Tryd.f62) = true:=by kernel_rfl
theorem aKU:aA env L (n + 1) 62 args h = aN env (aA env L n) L h.length [] ([]) aKF aFA (args ++ List.replicate (Tryd.f62.ntmps - args.length) (.d .undef)) h (kFin env.P h.length false [.tmp 4]) :=
 bF (mode:=1) (by kernel_rfl) Tryd.func62 (by kernel_rfl) (by kernel_rfl) aKT (by kernel_rfl) (by kernel_rfl)
noncomputable def ZH:SC:=bR Tryd.f64
noncomputable def vO:Nat → Code:=lpOf Tryd.f64
theorem XN:aP (a8 Tryd.f64) = true:=by kernel_rfl
theorem aHW:aA env L (n + 1) 64 args h = aN env (aA env L n) L h.length [] (U2 (Z2 (U2 (U1 (Z8 (Z2 (Z1 ([])))))))) vO ZH (args ++ List.replicate (Tryd.f64.ntmps - args.length) (.d .undef)) h (kFin env.P h.length false [.tmp 4]) :=
 bF (mode:=1) (by kernel_rfl) Tryd.func64 (by kernel_rfl) (by kernel_rfl) XN (by kernel_rfl) (by kernel_rfl)
noncomputable def yK:SC:=b8 Tryd.f64 0
theorem zD:aO env call L nf thaw live (vO 0) m (n + 1) s h k = aN env call L nf thaw live vO yK s h (b7 env call L nf thaw live (vO 0) m n k) :=
 aQ XN (by kernel_rfl)
noncomputable def VF:SC:=bR Tryd.f68
noncomputable def aGt:Nat → Code:=lpOf Tryd.f68
theorem aGs:aP (a8 Tryd.f68) = true:=by kernel_rfl
theorem aGD:aA env L (n + 1) 68 args h = aN env (aA env L n) L h.length [] ([]) aGt VF (args ++ List.replicate (Tryd.f68.ntmps - args.length) (.d .undef)) h (kFin env.P h.length false [.tmp 4]) :=
 bF (mode:=0) (by kernel_rfl) Tryd.func68 (by kernel_rfl) (by kernel_rfl) aGs (by kernel_rfl) (by kernel_rfl)
noncomputable def SB:SC:=bR Tryd.f70
noncomputable def aJn:Nat → Code:=lpOf Tryd.f70
theorem aJK:aP (a8 Tryd.f70) = true:=by kernel_rfl
theorem aAx:aA env L (n + 1) 70 args h = aN env (aA env L n) L h.length [] ([]) aJn SB (args ++ List.replicate (Tryd.f70.ntmps - args.length) (.d .undef)) h (kFin env.P h.length false Tryd.f70.results.toList) :=
 bF (mode:=0) (by kernel_rfl) Tryd.func70 (by kernel_rfl) (by kernel_rfl) aJK (by kernel_rfl) (by kernel_rfl)
noncomputable def aBT:SC:=bR Tryd.f71
noncomputable def qW:Nat → Code:=lpOf Tryd.f71
theorem aAG:aP (a8 Tryd.f71) = true:=by kernel_rfl
theorem aJo:aA env L (n + 1) 71 args h = aN env (aA env L n) L h.length [0,0,0,0,0,0,0,0,0,0,0,0,0,0,0,0,0,0,0,0,0,0,0,0,0,0,0,0,1002] (Z1 (U4 (Z16 (Z8 (Z2 (Z1 ([]))))))) qW aBT (args ++ List.replicate (Tryd.f71.ntmps - args.length) (.d .undef)) h (kFin env.P h.length true Tryd.f71.results.toList) :=
 bF (mode:=2) (by kernel_rfl) Tryd.func71 (by kernel_rfl) (by kernel_rfl) aAG (by kernel_rfl) (by kernel_rfl)
noncomputable def B4:SC:=b8 Tryd.f71 0
theorem AG:aO env call L nf thaw live (qW 0) m (n + 1) s h k = aN env call L nf thaw live qW B4 s h (b7 env call L nf thaw live (qW 0) m n k) :=
 aQ aAG (by kernel_rfl)
noncomputable def FF:SC:=bR Tryd.f72
noncomputable def UV:Nat → Code:=lpOf Tryd.f72
theorem US:aP (a8 Tryd.f72) = true:=by kernel_rfl
theorem UM:aA env L (n + 1) 72 args h = aN env (aA env L n) L h.length [] ([]) UV FF (args ++ List.replicate (Tryd.f72.ntmps - args.length) (.d .undef)) h (kFin env.P h.length false [.tmp 9]) :=
 bF (mode:=0) (by kernel_rfl) Tryd.func72 (by kernel_rfl) (by kernel_rfl) US (by kernel_rfl) (by kernel_rfl)
noncomputable def yN:SC:=bR Tryd.f73
noncomputable def e6:Nat → Code:=lpOf Tryd.f73
theorem vV:aP (a8 Tryd.f73) = true:=by kernel_rfl
theorem DV:aA env L (n + 1) 73 args h = aN env (aA env L n) L h.length [0,0,0,0,0,0,0,0,0,0,0,0,0,0,0,0,0,0,2] (Z2 (U2 (Z4 (Z2 (U2 (Z1 (U2 (U1 (Z1 (U2 (Z8 (Z4 (Z2 (U2 (U1 (Z4 (Z2 (Z1 (U2 (U1 (Z16 (Z1 ([]))))))))))))))))))))))) e6 yN (args ++ List.replicate (Tryd.f73.ntmps - args.length) (.d .undef)) h (kFin env.P h.length false [.tmp 10,.tmp 11]) :=
 bF (mode:=1) (by kernel_rfl) Tryd.func73 (by kernel_rfl) (by kernel_rfl) vV (by kernel_rfl) (by kernel_rfl)
noncomputable def qJ:SC:=b8 Tryd.f73 0
theorem qK:aO env call L nf thaw live (e6 0) m (n + 1) s h k = aN env call L nf thaw live e6 qJ s h (b7 env call L nf thaw live (e6 0) m n k) :=
 aQ vV (by kernel_rfl)
noncomputable def uA:SC:=b8 Tryd.f73 1
theorem uN:aO env call L nf thaw live (e6 1) m (n + 1) s h k = aN env call L nf thaw live e6 uA s h (b7 env call L nf thaw live (e6 1) m n k) :=
 aQ vV (by kernel_rfl)
noncomputable def B7:SC:=b8 Tryd.f73 2
theorem FL:aO env call L nf thaw live (e6 2) m (n + 1) s h k = aN env call L nf thaw live e6 B7 s h (b7 env call L nf thaw live (e6 2) m n k) :=
 aQ vV (by kernel_rfl)
noncomputable def F6:SC:=bR Tryd.f74
noncomputable def UK:Nat → Code:=lpOf Tryd.f74
theorem UR:aP (a8 Tryd.f74) = true:=by kernel_rfl
theorem UY:aA env L (n + 1) 74 args h = aN env (aA env L n) L h.length [] ([]) UK F6 (args ++ List.replicate (Tryd.f74.ntmps - args.length) (.d .undef)) h (kFin env.P h.length false [.tmp 6]) :=
 bF (mode:=0) (by kernel_rfl) Tryd.func74 (by kernel_rfl) (by kernel_rfl) UR (by kernel_rfl) (by kernel_rfl)
noncomputable def aAb:SC:=bR Tryd.f75
noncomputable def lP:Nat → Code:=lpOf Tryd.f75
theorem LQ:aP (a8 Tryd.f75) = true:=by kernel_rfl
theorem aHc:aA env L (n + 1) 75 args h = aN env (aA env L n) L h.length [] (Z1 (U4 (U1 (Z32 (Z2 (Z1 ([]))))))) lP aAb (args ++ List.replicate (Tryd.f75.ntmps - args.length) (.d .undef)) h (kFin env.P h.length false [.tmp 2]) :=
 bF (mode:=2) (by kernel_rfl) Tryd.func75 (by kernel_rfl) (by kernel_rfl) LQ (by kernel_rfl) (by kernel_rfl)
noncomputable def GR:SC:=b8 Tryd.f75 0
theorem J4:aO env call L nf thaw live (lP 0) m (n + 1) s h k = aN env call L nf thaw live lP GR s h (b7 env call L nf thaw live (lP 0) m n k) :=
 aQ LQ (by kernel_rfl)
noncomputable def GB:SC:=b8 Tryd.f75 1
theorem KV:aO env call L nf thaw live (lP 1) m (n + 1) s h k = aN env call L nf thaw live lP GB s h (b7 env call L nf thaw live (lP 1) m n k) :=
 aQ LQ (by kernel_rfl)
noncomputable def aAH:SC:=bR Tryd.f76
noncomputable def mC:Nat → Code:=lpOf Tryd.f76
theorem JQ:aP (a8 Tryd.f76) = true:=by kernel_rfl
theorem aHh:aA env L (n + 1) 76 args h = aN env (aA env L n) L h.length [] (Z1 (U2 (U1 (Z2 (U4 (U2 (U1 (Z32 (Z2 (Z1 ([]))))))))))) mC aAH (args ++ List.replicate (Tryd.f76.ntmps - args.length) (.d .undef)) h (kFin env.P h.length false [.tmp 6]) :=
 bF (mode:=2) (by kernel_rfl) Tryd.func76 (by kernel_rfl) (by kernel_rfl) JQ (by kernel_rfl) (by kernel_rfl)
noncomputable def GH:SC:=b8 Tryd.f76 0
theorem JT:aO env call L nf thaw live (mC 0) m (n + 1) s h k = aN env call L nf thaw live mC GH s h (b7 env call L nf thaw live (mC 0) m n k) :=
 aQ JQ (by kernel_rfl)
noncomputable def GI:SC:=b8 Tryd.f76 1
theorem KC:aO env call L nf thaw live (mC 1) m (n + 1) s h k = aN env call L nf thaw live mC GI s h (b7 env call L nf thaw live (mC 1) m n k) :=
 aQ JQ (by kernel_rfl)
noncomputable def tQ:SC:=bR Tryd.f77
noncomputable def aG8:Nat → Code:=lpOf Tryd.f77
theorem aGV:aP (a8 Tryd.f77) = true:=by kernel_rfl
theorem vB:aA env L (n + 1) 77 args h = aN env (aA env L n) L h.length [] (Z2 (U1 (Z2 (Z1 (U2 (Z32 (Z16 (Z8 ([]))))))))) aG8 tQ (args ++ List.replicate (Tryd.f77.ntmps - args.length) (.d .undef)) h (kFin env.P h.length false [.tmp 6]) :=
 bF (mode:=1) (by kernel_rfl) Tryd.func77 (by kernel_rfl) (by kernel_rfl) aGV (by kernel_rfl) (by kernel_rfl)
noncomputable def U6:SC:=bR Tryd.f78
noncomputable def tK:Nat → Code:=lpOf Tryd.f78
theorem TJ:aP (a8 Tryd.f78) = true:=by kernel_rfl
theorem aGo:aA env L (n + 1) 78 args h = aN env (aA env L n) L h.length [] (U2 (Z2 (U2 (U1 (Z16 (Z8 (Z2 ([])))))))) tK U6 (args ++ List.replicate (Tryd.f78.ntmps - args.length) (.d .undef)) h (kFin env.P h.length false [.tmp 4]) :=
 bF (mode:=2) (by kernel_rfl) Tryd.func78 (by kernel_rfl) (by kernel_rfl) TJ (by kernel_rfl) (by kernel_rfl)
noncomputable def D5:SC:=b8 Tryd.f78 0
theorem HE:aO env call L nf thaw live (tK 0) m (n + 1) s h k = aN env call L nf thaw live tK D5 s h (b7 env call L nf thaw live (tK 0) m n k) :=
 aQ TJ (by kernel_rfl)
noncomputable def aCS:SC:=bR Tryd.f79
noncomputable def lN:Nat → Code:=lpOf Tryd.f79
theorem OZ:aP (a8 Tryd.f79) = true:=by kernel_rfl
theorem aJe:aA env L (n + 1) 79 args h = aN env (aA env L n) L h.length [] (U2 (Z2 (U2 (U1 (Z16 (Z8 (Z4 ([])))))))) lN aCS (args ++ List.replicate (Tryd.f79.ntmps - args.length) (.d .undef)) h (kFin env.P h.length false []) :=
 bF (mode:=0) (by kernel_rfl) Tryd.func79 (by kernel_rfl) (by kernel_rfl) OZ (by kernel_rfl) (by kernel_rfl)
noncomputable def BN:SC:=b8 Tryd.f79 0
theorem AX:aO env call L nf thaw live (lN 0) m (n + 1) s h k = aN env call L nf thaw live lN BN s h (b7 env call L nf thaw live (lN 0) m n k) :=
 aQ OZ (by kernel_rfl)
noncomputable def u6:SC:=b8 Tryd.f79 1
theorem uD:aO env call L nf thaw live (lN 1) m (n + 1) s h k = aN env call L nf thaw live lN u6 s h (b7 env call L nf thaw live (lN 1) m n k) :=
 aQ OZ (by kernel_rfl)
noncomputable def XT:SC:=bR Tryd.f80
noncomputable def tM:Nat → Code:=lpOf Tryd.f80
theorem S0:aP (a8 Tryd.f80) = true:=by kernel_rfl
theorem aGI:aA env L (n + 1) 80 args h = aN env (aA env L n) L h.length [] (U2 (Z2 (U2 (U1 (Z16 (Z2 ([]))))))) tM XT (args ++ List.replicate (Tryd.f80.ntmps - args.length) (.d .undef)) h (kFin env.P h.length false [.tmp 4]) :=
 bF (mode:=1) (by kernel_rfl) Tryd.func80 (by kernel_rfl) (by kernel_rfl) S0 (by kernel_rfl) (by kernel_rfl)
noncomputable def D4:SC:=b8 Tryd.f80 0
theorem HV:aO env call L nf thaw live (tM 0) m (n + 1) s h k = aN env call L nf thaw live tM D4 s h (b7 env call L nf thaw live (tM 0) m n k) :=
 aQ S0 (by kernel_rfl)
noncomputable def XY:SC:=bR Tryd.f81
noncomputable def kN:Nat → Code:=lpOf Tryd.f81
theorem GV:aP (a8 Tryd.f81) = true:=by kernel_rfl
theorem aGB:aA env L (n + 1) 81 args h = aN env (aA env L n) L h.length [] (U4 (U1 (Z4 (Z1 (U4 (U1 (Z32 (Z16 (Z1 ([])))))))))) kN XY (args ++ List.replicate (Tryd.f81.ntmps - args.length) (.d .undef)) h (kFin env.P h.length false [.tmp 10]) :=
 bF (mode:=2) (by kernel_rfl) Tryd.func81 (by kernel_rfl) (by kernel_rfl) GV (by kernel_rfl) (by kernel_rfl)
noncomputable def DX:SC:=b8 Tryd.f81 0
theorem G3:aO env call L nf thaw live (kN 0) m (n + 1) s h k = aN env call L nf thaw live kN DX s h (b7 env call L nf thaw live (kN 0) m n k) :=
 aQ GV (by kernel_rfl)
noncomputable def rN:SC:=b8 Tryd.f81 1
theorem rH:aO env call L nf thaw live (kN 1) m (n + 1) s h k = aN env call L nf thaw live kN rN s h (b7 env call L nf thaw live (kN 1) m n k) :=
 aQ GV (by kernel_rfl)
noncomputable def aBZ:SC:=bR Tryd.f82
noncomputable def aI6:Nat → Code:=lpOf Tryd.f82
theorem aJy:aP (a8 Tryd.f82) = true:=by kernel_rfl
theorem aJd:aA env L (n + 1) 82 args h = aN env (aA env L n) L h.length [] ([]) aI6 aBZ (args ++ List.replicate (Tryd.f82.ntmps - args.length) (.d .undef)) h (kFin env.P h.length false [.tmp 2]) :=
 bF (mode:=1) (by kernel_rfl) Tryd.func82 (by kernel_rfl) (by kernel_rfl) aJy (by kernel_rfl) (by kernel_rfl)
noncomputable def wV:SC:=bR Tryd.f83
noncomputable def KH:Nat → Code:=lpOf Tryd.f83
theorem LH:aP (a8 Tryd.f83) = true:=by kernel_rfl
theorem KX:aA env L (n + 1) 83 args h = aN env (aA env L n) L h.length [] ([]) KH wV (args ++ List.replicate (Tryd.f83.ntmps - args.length) (.d .undef)) h (kFin env.P h.length false [.tmp 2]) :=
 bF (mode:=1) (by kernel_rfl) Tryd.func83 (by kernel_rfl) (by kernel_rfl) LH (by kernel_rfl) (by kernel_rfl)
noncomputable def aDk:SC:=bR Tryd.f90
noncomputable def lL:Nat → Code:=lpOf Tryd.f90
theorem PB:aP (a8 Tryd.f90) = true:=by kernel_rfl
theorem aIY:aA env L (n + 1) 90 args h = aN env (aA env L n) L h.length [] (Z2 (U1 (Z2 (Z1 (U4 (Z32 (Z4 (Z2 (Z1 ([])))))))))) lL aDk (args ++ List.replicate (Tryd.f90.ntmps - args.length) (.d .undef)) h (kFin env.P h.length false Tryd.f90.results.toList) :=
 bF (mode:=0) (by kernel_rfl) Tryd.func90 (by kernel_rfl) (by kernel_rfl) PB (by kernel_rfl) (by kernel_rfl)
noncomputable def JO:SC:=b8 Tryd.f90 0
theorem M2:aO env call L nf thaw live (lL 0) m (n + 1) s h k = aN env call L nf thaw live lL JO s h (b7 env call L nf thaw live (lL 0) m n k) :=
 aQ PB (by kernel_rfl)
noncomputable def JL:SC:=b8 Tryd.f90 1
theorem N8:aO env call L nf thaw live (lL 1) m (n + 1) s h k = aN env call L nf thaw live lL JL s h (b7 env call L nf thaw live (lL 1) m n k) :=
 aQ PB (by kernel_rfl)
noncomputable def VD:SC:=bR Tryd.f91
noncomputable def iL:Nat → Code:=lpOf Tryd.f91
theorem GQ:aP (a8 Tryd.f91) = true:=by kernel_rfl
theorem aGJ:aA env L (n + 1) 91 args h = aN env (aA env L n) L h.length [0,0,0,0,0,0,0,0,0,0,0,0,0,0,0,0,0,0,0,0,0,0,0,0,0,0,0,0,0,0,0,0,0,0,0,0,0,1002] (U1 (Z1 (U1 (Z2 (Z1 (U4 (U2 (Z32 (Z4 (Z1 ([]))))))))))) iL VD (args ++ List.replicate (Tryd.f91.ntmps - args.length) (.d .undef)) h (kFin env.P h.length true Tryd.f91.results.toList) :=
 bF (mode:=0) (by kernel_rfl) Tryd.func91 (by kernel_rfl) (by kernel_rfl) GQ (by kernel_rfl) (by kernel_rfl)
noncomputable def wB:SC:=b8 Tryd.f91 0
theorem xE:aO env call L nf thaw live (iL 0) m (n + 1) s h k = aN env call L nf thaw live iL wB s h (b7 env call L nf thaw live (iL 0) m n k) :=
 aQ GQ (by kernel_rfl)
noncomputable def r9:SC:=b8 Tryd.f91 1
theorem rG:aO env call L nf thaw live (iL 1) m (n + 1) s h k = aN env call L nf thaw live iL r9 s h (b7 env call L nf thaw live (iL 1) m n k) :=
 aQ GQ (by kernel_rfl)
noncomputable def s4:SC:=bR Tryd.f92
noncomputable def mJ:Nat → Code:=lpOf Tryd.f92
theorem HX:aP (a8 Tryd.f92) = true:=by kernel_rfl
theorem xD:aA env L (n + 1) 92 args h = aN env (aA env L n) L h.length [0,0,0,0,0,0,0,0,0,0,2] (U2 (Z1 (U2 (U1 (Z2 (Z1 (U2 (U1 (Z2 (U2 (U1 (Z32 (Z1 ([])))))))))))))) mJ s4 (args ++ List.replicate (Tryd.f92.ntmps - args.length) (.d .undef)) h (kFin env.P h.length false [.tmp 9]) :=
 bF (mode:=0) (by kernel_rfl) Tryd.func92 (by kernel_rfl) (by kernel_rfl) HX (by kernel_rfl) (by kernel_rfl)
noncomputable def eL:SC:=b8 Tryd.f92 0
theorem d6:aO env call L nf thaw live (mJ 0) m (n + 1) s h k = aN env call L nf thaw live mJ eL s h (b7 env call L nf thaw live (mJ 0) m n k) :=
 aQ HX (by kernel_rfl)
noncomputable def XM:SC:=bR Tryd.f93
noncomputable def tG:Nat → Code:=lpOf Tryd.f93
theorem TA:aP (a8 Tryd.f93) = true:=by kernel_rfl
theorem aGp:aA env L (n + 1) 93 args h = aN env (aA env L n) L h.length [0,0,0,2] (U1 (Z1 (U2 (U1 (Z16 (Z8 (Z2 (Z1 ([]))))))))) tG XM (args ++ List.replicate (Tryd.f93.ntmps - args.length) (.d .undef)) h (kFin env.P h.length false [.tmp 2]) :=
 bF (mode:=1) (by kernel_rfl) Tryd.func93 (by kernel_rfl) (by kernel_rfl) TA (by kernel_rfl) (by kernel_rfl)
noncomputable def DZ:SC:=b8 Tryd.f93 0
theorem G0:aO env call L nf thaw live (tG 0) m (n + 1) s h k = aN env call L nf thaw live tG DZ s h (b7 env call L nf thaw live (tG 0) m n k) :=
 aQ TA (by kernel_rfl)
noncomputable def aAp:SC:=bR Tryd.f94
noncomputable def gM:Nat → Code:=lpOf Tryd.f94
theorem AD:aP (a8 Tryd.f94) = true:=by kernel_rfl
theorem aIg:aA env L (n + 1) 94 args h = aN env (aA env L n) L h.length [] (Z1 (U4 (Z2 (Z1 (U4 (U2 (U1 (Z32 (Z8 (Z4 (Z2 (Z1 ([]))))))))))))) gM aAp (args ++ List.replicate (Tryd.f94.ntmps - args.length) (.d .undef)) h (kFin env.P h.length false [.tmp 8]) :=
 bF (mode:=2) (by kernel_rfl) Tryd.func94 (by kernel_rfl) (by kernel_rfl) AD (by kernel_rfl) (by kernel_rfl)
noncomputable def GP:SC:=b8 Tryd.f94 0
theorem JI:aO env call L nf thaw live (gM 0) m (n + 1) s h k = aN env call L nf thaw live gM GP s h (b7 env call L nf thaw live (gM 0) m n k) :=
 aQ AD (by kernel_rfl)
noncomputable def GG:SC:=b8 Tryd.f94 1
theorem KP:aO env call L nf thaw live (gM 1) m (n + 1) s h k = aN env call L nf thaw live gM GG s h (b7 env call L nf thaw live (gM 1) m n k) :=
 aQ AD (by kernel_rfl)
noncomputable def GE:SC:=b8 Tryd.f94 2
theorem JR:aO env call L nf thaw live (gM 2) m (n + 1) s h k = aN env call L nf thaw live gM GE s h (b7 env call L nf thaw live (gM 2) m n k) :=
 aQ AD (by kernel_rfl)
noncomputable def aHM:SC:=bR Tryd.f95
noncomputable def aOr:Nat → Code:=lpOf Tryd.f95
theorem aL5:aP (a8 Tryd.f95) = true:=by kernel_rfl
theorem aNX:aA env L (n + 1) 95 args h = aN env (aA env L n) L h.length [] ([]) aOr aHM (args ++ List.replicate (Tryd.f95.ntmps - args.length) (.d .undef)) h (kFin env.P h.length false [.tmp 6]) :=
 bF (mode:=1) (by kernel_rfl) Tryd.func95 (by kernel_rfl) (by kernel_rfl) aL5 (by kernel_rfl) (by kernel_rfl)
noncomputable def R1:SC:=bR Tryd.f96
noncomputable def nQ:Nat → Code:=lpOf Tryd.f96
theorem O3:aP (a8 Tryd.f96) = true:=by kernel_rfl
theorem ZD:aA env L (n + 1) 96 args h = aN env (aA env L n) L h.length [] (U2 (U1 (Z2 (Z1 (U2 (U1 (Z16 (Z8 (Z2 (Z1 ([]))))))))))) nQ R1 (args ++ List.replicate (Tryd.f96.ntmps - args.length) (.d .undef)) h (kFin env.P h.length false [.tmp 6]) :=
 bF (mode:=1) (by kernel_rfl) Tryd.func96 (by kernel_rfl) (by kernel_rfl) O3 (by kernel_rfl) (by kernel_rfl)
noncomputable def BC:SC:=b8 Tryd.f96 0
theorem B6:aO env call L nf thaw live (nQ 0) m (n + 1) s h k = aN env call L nf thaw live nQ BC s h (b7 env call L nf thaw live (nQ 0) m n k) :=
 aQ O3 (by kernel_rfl)
noncomputable def BZ:SC:=b8 Tryd.f96 1
theorem CD:aO env call L nf thaw live (nQ 1) m (n + 1) s h k = aN env call L nf thaw live nQ BZ s h (b7 env call L nf thaw live (nQ 1) m n k) :=
 aQ O3 (by kernel_rfl)
noncomputable def aBj:SC:=bR Tryd.f97
noncomputable def FV:Nat → Code:=lpOf Tryd.f97
theorem aE4:aP (a8 Tryd.f97) = true:=by kernel_rfl
theorem aFV:aA env L (n + 1) 97 args h = aN env (aA env L n) L h.length [] (U2 (Z2 (U2 (Z8 (Z4 ([])))))) FV aBj (args ++ List.replicate (Tryd.f97.ntmps - args.length) (.d .undef)) h (kFin env.P h.length false [.tmp 4]) :=
 bF (mode:=1) (by kernel_rfl) Tryd.func97 (by kernel_rfl) (by kernel_rfl) aE4 (by kernel_rfl) (by kernel_rfl)
noncomputable def IC:SC:=b8 Tryd.f97 0
theorem GM:aO env call L nf thaw live (FV 0) m (n + 1) s h k = aN env call L nf thaw live FV IC s h (b7 env call L nf thaw live (FV 0) m n k) :=
 aQ aE4 (by kernel_rfl)
noncomputable def rR:SC:=bR Tryd.f98
noncomputable def CR:Nat → Code:=lpOf Tryd.f98
theorem CL:aP (a8 Tryd.f98) = true:=by kernel_rfl
theorem CN:aA env L (n + 1) 98 args h = aN env (aA env L n) L h.length [] ([]) CR rR (args ++ List.replicate (Tryd.f98.ntmps - args.length) (.d .undef)) h (kFin env.P h.length false [.tmp 4]) :=
 bF (mode:=1) (by kernel_rfl) Tryd.func98 (by kernel_rfl) (by kernel_rfl) CL (by kernel_rfl) (by kernel_rfl)
noncomputable def QZ:SC:=bR Tryd.f102
noncomputable def aC4:Nat → Code:=lpOf Tryd.f102
theorem aDs:aP (a8 Tryd.f102) = true:=by kernel_rfl
theorem aCK:aA env L (n + 1) 102 args h = aN env (aA env L n) L h.length [] ([]) aC4 QZ (args ++ List.replicate (Tryd.f102.ntmps - args.length) (.d .undef)) h (kFin env.P h.length false [.tmp 2]) :=
 bF (mode:=1) (by kernel_rfl) Tryd.func102 (by kernel_rfl) (by kernel_rfl) aDs (by kernel_rfl) (by kernel_rfl)
noncomputable def tC:SC:=bR Tryd.f103
noncomputable def fE:Nat → Code:=lpOf Tryd.f103
theorem sD:aP (a8 Tryd.f103) = true:=by kernel_rfl
theorem FB:aA env L (n + 1) 103 args h = aN env (aA env L n) L h.length [] (U1 (Z1 (U2 (Z16 (Z8 ([])))))) fE tC (args ++ List.replicate (Tryd.f103.ntmps - args.length) (.d .undef)) h (kFin env.P h.length false []) :=
 bF (mode:=0) (by kernel_rfl) Tryd.func103 (by kernel_rfl) (by kernel_rfl) sD (by kernel_rfl) (by kernel_rfl)
noncomputable def jR:SC:=b8 Tryd.f103 0
theorem lE:aO env call L nf thaw live (fE 0) m (n + 1) s h k = aN env call L nf thaw live fE jR s h (b7 env call L nf thaw live (fE 0) m n k) :=
 aQ sD (by kernel_rfl)
noncomputable def TU:SC:=bR Tryd.f104
noncomputable def aDT:Nat → Code:=lpOf Tryd.f104
theorem aD6:aP (a8 Tryd.f104) = true:=by kernel_rfl
theorem aDQ:aA env L (n + 1) 104 args h = aN env (aA env L n) L h.length [] (Z2 (U2 (Z4 (U4 (Z32 (Z32 (Z2 (Z1 ([]))))))))) aDT TU (args ++ List.replicate (Tryd.f104.ntmps - args.length) (.d .undef)) h (kFin env.P h.length false [.tmp 8]) :=
 bF (mode:=2) (by kernel_rfl) Tryd.func104 (by kernel_rfl) (by kernel_rfl) aD6 (by kernel_rfl) (by kernel_rfl)
noncomputable def mD:SC:=bR Tryd.f105
noncomputable def H6:Nat → Code:=lpOf Tryd.f105
theorem H4:aP (a8 Tryd.f105) = true:=by kernel_rfl
theorem oW:aA env L (n + 1) 105 args h = aN env (aA env L n) L h.length [] ([]) H6 mD (args ++ List.replicate (Tryd.f105.ntmps - args.length) (.d .undef)) h (kFin env.P h.length false [.tmp 2]) :=
 bF (mode:=1) (by kernel_rfl) Tryd.func105 (by kernel_rfl) (by kernel_rfl) H4 (by kernel_rfl) (by kernel_rfl)
end
end Ev
end Go.Proofs.YtppdfjdfjfoddaaDoor
