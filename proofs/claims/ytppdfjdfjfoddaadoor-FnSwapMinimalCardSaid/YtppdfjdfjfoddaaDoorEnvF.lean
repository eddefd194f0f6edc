/-
  Each function's code as an equation. Written by a program.
-/
import Derived.Test.YtppdfjdfjfoddaaDoorEnv
set_option maxRecDepth 100000
namespace Go.Proofs.YtppdfjdfjfoddaaDoor
namespace Ev
section
variable {R:Type} {call:a7} {L nf n:Nat} {thaw:List Nat} {live m:List Bool} {s args:List A} {h:H} {k:Exit → List A → H → Option R}
noncomputable def sT:SC:=bP Tryd.f4
noncomputable def ZX:Nat → Code:=lpOf Tryd.f4
theorem ZY:aP (aY Tryd.f4) = true:=by kernel_rfl
theorem wY:aA env L (n + 1) 4 args h = aN env (aA env L n) L h.length [] ([]) ZX sT (args ++ List.replicate (Tryd.f4.ntmps - args.length) (.d .undef)) h (kFin env.P h.length false [.tmp 2]) :=
 bI (mode:=1) (by kernel_rfl) Tryd.func4 (by kernel_rfl) (by kernel_rfl) ZY (by kernel_rfl) (by kernel_rfl)
noncomputable def iM:SC:=bP Tryd.f9
noncomputable def eX:Nat → Code:=lpOf Tryd.f9
theorem sE:aP (aY Tryd.f9) = true:=by kernel_rfl
theorem jG:aA env L (n + 1) 9 args h = aN env (aA env L n) L h.length [] (Z1 (U2 (U1 (Z32 (Z2 (U2 (U1 (Z4 (Z2 (Z1 (U2 (U1 (Z8 (Z4 (Z2 ([])))))))))))))))) eX iM (args ++ List.replicate (Tryd.f9.ntmps - args.length) (.d .undef)) h (kFin env.P h.length false [.tmp 2]) :=
 bI (mode:=1) (by kernel_rfl) Tryd.func9 (by kernel_rfl) (by kernel_rfl) sE (by kernel_rfl) (by kernel_rfl)
noncomputable def kQ:SC:=dT Tryd.f9 0
theorem lM:aU env call L nf thaw live (eX 0) m (n + 1) s h k = aN env call L nf thaw live eX kQ s h (dS env call L nf thaw live (eX 0) m n k) :=
 a8 sE (by kernel_rfl)
noncomputable def kT:SC:=dT Tryd.f9 1
theorem lL:aU env call L nf thaw live (eX 1) m (n + 1) s h k = aN env call L nf thaw live eX kT s h (dS env call L nf thaw live (eX 1) m n k) :=
 a8 sE (by kernel_rfl)
noncomputable def HT:SC:=bP Tryd.f10
noncomputable def WE:Nat → Code:=lpOf Tryd.f10
theorem V7:aP (aY Tryd.f10) = true:=by kernel_rfl
theorem V6:aA env L (n + 1) 10 args h = aN env (aA env L n) L h.length [] ([]) WE HT (args ++ List.replicate (Tryd.f10.ntmps - args.length) (.d .undef)) h (kFin env.P h.length false [.tmp 2]) :=
 bI (mode:=2) (by kernel_rfl) Tryd.func10 (by kernel_rfl) (by kernel_rfl) V7 (by kernel_rfl) (by kernel_rfl)
noncomputable def xZ:SC:=bP Tryd.f12
noncomputable def M7:Nat → Code:=lpOf Tryd.f12
theorem MR:aP (aY Tryd.f12) = true:=by kernel_rfl
theorem MT:aA env L (n + 1) 12 args h = aN env (aA env L n) L h.length [] ([]) M7 xZ (args ++ List.replicate (Tryd.f12.ntmps - args.length) (.d .undef)) h (kFin env.P h.length false Tryd.f12.results.toList) :=
 bI (mode:=2) (by kernel_rfl) Tryd.func12 (by kernel_rfl) (by kernel_rfl) MR (by kernel_rfl) (by kernel_rfl)
noncomputable def nJ:SC:=bP Tryd.f13
noncomputable def fL:Nat → Code:=lpOf Tryd.f13
theorem sZ:aP (aY Tryd.f13) = true:=by kernel_rfl
theorem o7:aA env L (n + 1) 13 args h = aN env (aA env L n) L h.length [0,0,0,0,0,0,0,0,0,0,0,2] (Z1 (U2 (Z2 (Z1 (U4 (U2 (Z16 (Z8 (Z4 (Z1 (U2 (Z4 (U2 (U1 (Z16 (Z8 ([]))))))))))))))))) fL nJ (args ++ List.replicate (Tryd.f13.ntmps - args.length) (.d .undef)) h (kFin env.P h.length false Tryd.f13.results.toList) :=
 bI (mode:=2) (by kernel_rfl) Tryd.func13 (by kernel_rfl) (by kernel_rfl) sZ (by kernel_rfl) (by kernel_rfl)
noncomputable def oC:SC:=dT Tryd.f13 0
theorem pC:aU env call L nf thaw live (fL 0) m (n + 1) s h k = aN env call L nf thaw live fL oC s h (dS env call L nf thaw live (fL 0) m n k) :=
 a8 sZ (by kernel_rfl)
noncomputable def sD:SC:=dT Tryd.f13 1
theorem vK:aU env call L nf thaw live (fL 1) m (n + 1) s h k = aN env call L nf thaw live fL sD s h (dS env call L nf thaw live (fL 1) m n k) :=
 a8 sZ (by kernel_rfl)
noncomputable def nH:SC:=bP Tryd.f14
noncomputable def fK:Nat → Code:=lpOf Tryd.f14
theorem tO:aP (aY Tryd.f14) = true:=by kernel_rfl
theorem oW:aA env L (n + 1) 14 args h = aN env (aA env L n) L h.length [] (Z1 (U2 (U1 (Z2 (U4 (U2 (U1 (Z32 (Z16 (Z8 (Z4 (Z1 ([]))))))))))))) fK nH (args ++ List.replicate (Tryd.f14.ntmps - args.length) (.d .undef)) h (kFin env.P h.length false Tryd.f14.results.toList) :=
 bI (mode:=2) (by kernel_rfl) Tryd.func14 (by kernel_rfl) (by kernel_rfl) tO (by kernel_rfl) (by kernel_rfl)
noncomputable def oD:SC:=dT Tryd.f14 0
theorem pB:aU env call L nf thaw live (fK 0) m (n + 1) s h k = aN env call L nf thaw live fK oD s h (dS env call L nf thaw live (fK 0) m n k) :=
 a8 tO (by kernel_rfl)
noncomputable def sI:SC:=dT Tryd.f14 1
theorem wA:aU env call L nf thaw live (fK 1) m (n + 1) s h k = aN env call L nf thaw live fK sI s h (dS env call L nf thaw live (fK 1) m n k) :=
 a8 tO (by kernel_rfl)
noncomputable def UK:SC:=bP Tryd.f15
noncomputable def rN:Nat → Code:=lpOf Tryd.f15
theorem QF:aP (aY Tryd.f15) = true:=by kernel_rfl
theorem aEQ:aA env L (n + 1) 15 args h = aN env (aA env L n) L h.length [] (Z2 (U4 (Z32 (Z8 (Z1 ([])))))) rN UK (args ++ List.replicate (Tryd.f15.ntmps - args.length) (.d .undef)) h (kFin env.P h.length false [.tmp 4]) :=
 bI (mode:=1) (by kernel_rfl) Tryd.func15 (by kernel_rfl) (by kernel_rfl) QF (by kernel_rfl) (by kernel_rfl)
noncomputable def CZ:SC:=dT Tryd.f15 0
theorem FQ:aU env call L nf thaw live (rN 0) m (n + 1) s h k = aN env call L nf thaw live rN CZ s h (dS env call L nf thaw live (rN 0) m n k) :=
 a8 QF (by kernel_rfl)
noncomputable def xY:SC:=bP Tryd.f16
noncomputable def M2:Nat → Code:=lpOf Tryd.f16
theorem MY:aP (aY Tryd.f16) = true:=by kernel_rfl
theorem MZ:aA env L (n + 1) 16 args h = aN env (aA env L n) L h.length [] ([]) M2 xY (args ++ List.replicate (Tryd.f16.ntmps - args.length) (.d .undef)) h (kFin env.P h.length false Tryd.f16.results.toList) :=
 bI (mode:=2) (by kernel_rfl) Tryd.func16 (by kernel_rfl) (by kernel_rfl) MY (by kernel_rfl) (by kernel_rfl)
noncomputable def Q5:SC:=bP Tryd.f17
noncomputable def aCo:Nat → Code:=lpOf Tryd.f17
theorem aCQ:aP (aY Tryd.f17) = true:=by kernel_rfl
theorem aCt:aA env L (n + 1) 17 args h = aN env (aA env L n) L h.length [] ([]) aCo Q5 (args ++ List.replicate (Tryd.f17.ntmps - args.length) (.d .undef)) h (kFin env.P h.length false [.tmp 2]) :=
 bI (mode:=1) (by kernel_rfl) Tryd.func17 (by kernel_rfl) (by kernel_rfl) aCQ (by kernel_rfl) (by kernel_rfl)
noncomputable def H2:SC:=bP Tryd.f18
noncomputable def V0:Nat → Code:=lpOf Tryd.f18
theorem WC:aP (aY Tryd.f18) = true:=by kernel_rfl
theorem VZ:aA env L (n + 1) 18 args h = aN env (aA env L n) L h.length [] ([]) V0 H2 (args ++ List.replicate (Tryd.f18.ntmps - args.length) (.d .undef)) h (kFin env.P h.length false [.tmp 4]) :=
 bI (mode:=1) (by kernel_rfl) Tryd.func18 (by kernel_rfl) (by kernel_rfl) WC (by kernel_rfl) (by kernel_rfl)
noncomputable def aGH:SC:=bP Tryd.f19
noncomputable def EU:Nat → Code:=lpOf Tryd.f19
theorem aEG:aP (aY Tryd.f19) = true:=by kernel_rfl
theorem aKv:aA env L (n + 1) 19 args h = aN env (aA env L n) L h.length [] (U2 (Z2 (U2 (Z16 (Z4 ([])))))) EU aGH (args ++ List.replicate (Tryd.f19.ntmps - args.length) (.d .undef)) h (kFin env.P h.length false [.tmp 4]) :=
 bI (mode:=1) (by kernel_rfl) Tryd.func19 (by kernel_rfl) (by kernel_rfl) aEG (by kernel_rfl) (by kernel_rfl)
noncomputable def PY:SC:=dT Tryd.f19 0
theorem QY:aU env call L nf thaw live (EU 0) m (n + 1) s h k = aN env call L nf thaw live EU PY s h (dS env call L nf thaw live (EU 0) m n k) :=
 a8 aEG (by kernel_rfl)
noncomputable def MM:SC:=bP Tryd.f21
noncomputable def aGY:Nat → Code:=lpOf Tryd.f21
theorem aFD:aP (aY Tryd.f21) = true:=by kernel_rfl
theorem SD:aA env L (n + 1) 21 args h = aN env (aA env L n) L h.length [] ([]) aGY MM (args ++ List.replicate (Tryd.f21.ntmps - args.length) (.d .undef)) h (kFin env.P h.length true [.tmp 2]) :=
 bI (mode:=2) (by kernel_rfl) Tryd.func21 (by kernel_rfl) (by kernel_rfl) aFD (by kernel_rfl) (by kernel_rfl)
noncomputable def iN:SC:=bP Tryd.f24
noncomputable def lX:Nat → Code:=lpOf Tryd.f24
theorem B1:aP (aY Tryd.f24) = true:=by kernel_rfl
theorem jH:aA env L (n + 1) 24 args h = aN env (aA env L n) L h.length [] (Z1 (U4 (Z32 (Z4 (Z2 (Z1 ([]))))))) lX iN (args ++ List.replicate (Tryd.f24.ntmps - args.length) (.d .undef)) h (kFin env.P h.length false [.tmp 2]) :=
 bI (mode:=1) (by kernel_rfl) Tryd.func24 (by kernel_rfl) (by kernel_rfl) B1 (by kernel_rfl) (by kernel_rfl)
noncomputable def nO:SC:=dT Tryd.f24 0
theorem oL:aU env call L nf thaw live (lX 0) m (n + 1) s h k = aN env call L nf thaw live lX nO s h (dS env call L nf thaw live (lX 0) m n k) :=
 a8 B1 (by kernel_rfl)
noncomputable def OP:SC:=bP Tryd.f27
noncomputable def aAA:Nat → Code:=lpOf Tryd.f27
theorem aB3:aP (aY Tryd.f27) = true:=by kernel_rfl
theorem aBV:aA env L (n + 1) 27 args h = aN env (aA env L n) L h.length [] ([]) aAA OP (args ++ List.replicate (Tryd.f27.ntmps - args.length) (.d .undef)) h (kFin env.P h.length false [.tmp 2]) :=
 bI (mode:=1) (by kernel_rfl) Tryd.func27 (by kernel_rfl) (by kernel_rfl) aB3 (by kernel_rfl) (by kernel_rfl)
noncomputable def QJ:SC:=bP Tryd.f28
noncomputable def nX:Nat → Code:=lpOf Tryd.f28
theorem NU:aP (aY Tryd.f28) = true:=by kernel_rfl
theorem aCF:aA env L (n + 1) 28 args h = aN env (aA env L n) L h.length [0,0,0,2] (U1 (Z1 (U2 (Z1 (U1 (Z8 (Z2 (Z1 ([]))))))))) nX QJ (args ++ List.replicate (Tryd.f28.ntmps - args.length) (.d .undef)) h (kFin env.P h.length false [.tmp 2]) :=
 bI (mode:=2) (by kernel_rfl) Tryd.func28 (by kernel_rfl) (by kernel_rfl) NU (by kernel_rfl) (by kernel_rfl)
noncomputable def sU:SC:=dT Tryd.f28 0
theorem tQ:aU env call L nf thaw live (nX 0) m (n + 1) s h k = aN env call L nf thaw live nX sU s h (dS env call L nf thaw live (nX 0) m n k) :=
 a8 NU (by kernel_rfl)
noncomputable def RO:SC:=bP Tryd.f29
noncomputable def dJ:Nat → Code:=lpOf Tryd.f29
theorem qB:aP (aY Tryd.f29) = true:=by kernel_rfl
theorem aCC:aA env L (n + 1) 29 args h = aN env (aA env L n) L h.length [] (Z1 (U2 (U1 (Z1 (U4 (Z1 (U1 (Z8 (Z1 (U2 (Z16 (U2 (U1 (Z8 (Z1 (U2 (U1 (Z32 (Z4 (Z2 ([]))))))))))))))))))))) dJ RO (args ++ List.replicate (Tryd.f29.ntmps - args.length) (.d .undef)) h (kFin env.P h.length false [.tmp 2]) :=
 bI (mode:=2) (by kernel_rfl) Tryd.func29 (by kernel_rfl) (by kernel_rfl) qB (by kernel_rfl) (by kernel_rfl)
noncomputable def sY:SC:=dT Tryd.f29 0
theorem t6:aU env call L nf thaw live (dJ 0) m (n + 1) s h k = aN env call L nf thaw live dJ sY s h (dS env call L nf thaw live (dJ 0) m n k) :=
 a8 qB (by kernel_rfl)
noncomputable def zS:SC:=dT Tryd.f29 1
theorem EA:aU env call L nf thaw live (dJ 1) m (n + 1) s h k = aN env call L nf thaw live dJ zS s h (dS env call L nf thaw live (dJ 1) m n k) :=
 a8 qB (by kernel_rfl)
noncomputable def sW:SC:=dT Tryd.f29 2
theorem tX:aU env call L nf thaw live (dJ 2) m (n + 1) s h k = aN env call L nf thaw live dJ sW s h (dS env call L nf thaw live (dJ 2) m n k) :=
 a8 qB (by kernel_rfl)
noncomputable def zE:SC:=dT Tryd.f29 3
theorem DP:aU env call L nf thaw live (dJ 3) m (n + 1) s h k = aN env call L nf thaw live dJ zE s h (dS env call L nf thaw live (dJ 3) m n k) :=
 a8 qB (by kernel_rfl)
noncomputable def UM:SC:=bP Tryd.f31
noncomputable def aJI:Nat → Code:=lpOf Tryd.f31
theorem aJT:aP (aY Tryd.f31) = true:=by kernel_rfl
theorem aA0:aA env L (n + 1) 31 args h = aN env (aA env L n) L h.length [] ([]) aJI UM (args ++ List.replicate (Tryd.f31.ntmps - args.length) (.d .undef)) h (kFin env.P h.length false Tryd.f31.results.toList) :=
 bI (mode:=0) (by kernel_rfl) Tryd.func31 (by kernel_rfl) (by kernel_rfl) aJT (by kernel_rfl) (by kernel_rfl)
noncomputable def AO:SC:=bP Tryd.f32
noncomputable def aHD:Nat → Code:=lpOf Tryd.f32
theorem aHT:aP (aY Tryd.f32) = true:=by kernel_rfl
theorem DF:aA env L (n + 1) 32 args h = aN env (aA env L n) L h.length [] ([]) aHD AO (args ++ List.replicate (Tryd.f32.ntmps - args.length) (.d .undef)) h (kFin env.P h.length false [.tmp 2,.tmp 3]) :=
 bI (mode:=0) (by kernel_rfl) Tryd.func32 (by kernel_rfl) (by kernel_rfl) aHT (by kernel_rfl) (by kernel_rfl)
noncomputable def UF:SC:=bP Tryd.f33
noncomputable def aEZ:Nat → Code:=lpOf Tryd.f33
theorem aES:aP (aY Tryd.f33) = true:=by kernel_rfl
theorem aEY:aA env L (n + 1) 33 args h = aN env (aA env L n) L h.length [] ([]) aEZ UF (args ++ List.replicate (Tryd.f33.ntmps - args.length) (.d .undef)) h (kFin env.P h.length false [.tmp 2]) :=
 bI (mode:=1) (by kernel_rfl) Tryd.func33 (by kernel_rfl) (by kernel_rfl) aES (by kernel_rfl) (by kernel_rfl)
noncomputable def YB:SC:=bP Tryd.f34
noncomputable def gH:Nat → Code:=lpOf Tryd.f34
theorem y5:aP (aY Tryd.f34) = true:=by kernel_rfl
theorem aFZ:aA env L (n + 1) 34 args h = aN env (aA env L n) L h.length [] (Z2 (U4 (U1 (Z8 (Z2 (Z1 (U2 (U1 (Z4 (U1 (Z8 (Z1 (U2 (U1 (Z16 ([])))))))))))))))) gH YB (args ++ List.replicate (Tryd.f34.ntmps - args.length) (.d .undef)) h (kFin env.P h.length false [.tmp 2]) :=
 bI (mode:=2) (by kernel_rfl) Tryd.func34 (by kernel_rfl) (by kernel_rfl) y5 (by kernel_rfl) (by kernel_rfl)
noncomputable def E3:SC:=dT Tryd.f34 0
theorem J4:aU env call L nf thaw live (gH 0) m (n + 1) s h k = aN env call L nf thaw live gH E3 s h (dS env call L nf thaw live (gH 0) m n k) :=
 a8 y5 (by kernel_rfl)
noncomputable def E8:SC:=dT Tryd.f34 1
theorem HS:aU env call L nf thaw live (gH 1) m (n + 1) s h k = aN env call L nf thaw live gH E8 s h (dS env call L nf thaw live (gH 1) m n k) :=
 a8 y5 (by kernel_rfl)
noncomputable def E1:SC:=dT Tryd.f34 2
theorem HE:aU env call L nf thaw live (gH 2) m (n + 1) s h k = aN env call L nf thaw live gH E1 s h (dS env call L nf thaw live (gH 2) m n k) :=
 a8 y5 (by kernel_rfl)
noncomputable def n5:SC:=bP Tryd.f35
noncomputable def kY:Nat → Code:=lpOf Tryd.f35
theorem F3:aP (aY Tryd.f35) = true:=by kernel_rfl
theorem pN:aA env L (n + 1) 35 args h = aN env (aA env L n) L h.length [] (Z1 (U2 (Z2 (Z1 (U2 (Z16 (U2 (U1 (Z8 (Z4 ([]))))))))))) kY n5 (args ++ List.replicate (Tryd.f35.ntmps - args.length) (.d .undef)) h (kFin env.P h.length false [.tmp 6]) :=
 bI (mode:=1) (by kernel_rfl) Tryd.func35 (by kernel_rfl) (by kernel_rfl) F3 (by kernel_rfl) (by kernel_rfl)
noncomputable def s8:SC:=dT Tryd.f35 0
theorem yB:aU env call L nf thaw live (kY 0) m (n + 1) s h k = aN env call L nf thaw live kY s8 s h (dS env call L nf thaw live (kY 0) m n k) :=
 a8 F3 (by kernel_rfl)
theorem ED {L n:Nat} {args:List A} {h:H}:aA env L (n + 1) 36 args h = JY 1 args h:=by
 have:env.prim 36 = some (JY 1):=by kernel_rfl
 simp only [aA,this]
noncomputable def W4:SC:=bP Tryd.f37
noncomputable def aF0:Nat → Code:=lpOf Tryd.f37
theorem aFp:aP (aY Tryd.f37) = true:=by kernel_rfl
theorem aGX:aA env L (n + 1) 37 args h = aN env (aA env L n) L h.length [] ([]) aF0 W4 (args ++ List.replicate (Tryd.f37.ntmps - args.length) (.d .undef)) h (kFin env.P h.length false [.tmp 6]) :=
 bI (mode:=1) (by kernel_rfl) Tryd.func37 (by kernel_rfl) (by kernel_rfl) aFp (by kernel_rfl) (by kernel_rfl)
noncomputable def Q0:SC:=bP Tryd.f38
noncomputable def aCE:Nat → Code:=lpOf Tryd.f38
theorem aCh:aP (aY Tryd.f38) = true:=by kernel_rfl
theorem aCw:aA env L (n + 1) 38 args h = aN env (aA env L n) L h.length [] ([]) aCE Q0 (args ++ List.replicate (Tryd.f38.ntmps - args.length) (.d .undef)) h (kFin env.P h.length false [.tmp 2]) :=
 bI (mode:=1) (by kernel_rfl) Tryd.func38 (by kernel_rfl) (by kernel_rfl) aCh (by kernel_rfl) (by kernel_rfl)
noncomputable def nZ:SC:=bP Tryd.f39
noncomputable def k9:Nat → Code:=lpOf Tryd.f39
theorem FU:aP (aY Tryd.f39) = true:=by kernel_rfl
theorem pQ:aA env L (n + 1) 39 args h = aN env (aA env L n) L h.length [] (U2 (U1 (Z2 (Z1 (U2 (U1 (Z16 (Z8 (Z4 ([])))))))))) k9 nZ (args ++ List.replicate (Tryd.f39.ntmps - args.length) (.d .undef)) h (kFin env.P h.length false [.tmp 6]) :=
 bI (mode:=1) (by kernel_rfl) Tryd.func39 (by kernel_rfl) (by kernel_rfl) FU (by kernel_rfl) (by kernel_rfl)
noncomputable def s5:SC:=dT Tryd.f39 0
theorem yP:aU env call L nf thaw live (k9 0) m (n + 1) s h k = aN env call L nf thaw live k9 s5 s h (dS env call L nf thaw live (k9 0) m n k) :=
 a8 FU (by kernel_rfl)
noncomputable def RK:SC:=bP Tryd.f40
noncomputable def pS:Nat → Code:=lpOf Tryd.f40
theorem NP:aP (aY Tryd.f40) = true:=by kernel_rfl
theorem aCL:aA env L (n + 1) 40 args h = aN env (aA env L n) L h.length [] (U1 (Z1 (U2 (U1 (Z8 (Z4 (Z1 ([])))))))) pS RK (args ++ List.replicate (Tryd.f40.ntmps - args.length) (.d .undef)) h (kFin env.P h.length false [.tmp 2]) :=
 bI (mode:=2) (by kernel_rfl) Tryd.func40 (by kernel_rfl) (by kernel_rfl) NP (by kernel_rfl) (by kernel_rfl)
noncomputable def sQ:SC:=dT Tryd.f40 0
theorem tS:aU env call L nf thaw live (pS 0) m (n + 1) s h k = aN env call L nf thaw live pS sQ s h (dS env call L nf thaw live (pS 0) m n k) :=
 a8 NP (by kernel_rfl)
noncomputable def YY:SC:=bP Tryd.f41
noncomputable def aM3:Nat → Code:=lpOf Tryd.f41
theorem aKq:aP (aY Tryd.f41) = true:=by kernel_rfl
theorem aDX:aA env L (n + 1) 41 args h = aN env (aA env L n) L h.length [] ([]) aM3 YY (args ++ List.replicate (Tryd.f41.ntmps - args.length) (.d .undef)) h (kFin env.P h.length false [.tmp 6]) :=
 bI (mode:=1) (by kernel_rfl) Tryd.func41 (by kernel_rfl) (by kernel_rfl) aKq (by kernel_rfl) (by kernel_rfl)
noncomputable def YE:SC:=bP Tryd.f42
noncomputable def aGW:Nat → Code:=lpOf Tryd.f42
theorem aHa:aP (aY Tryd.f42) = true:=by kernel_rfl
theorem aGa:aA env L (n + 1) 42 args h = aN env (aA env L n) L h.length [] ([]) aGW YE (args ++ List.replicate (Tryd.f42.ntmps - args.length) (.d .undef)) h (kFin env.P h.length false [.tmp 6]) :=
 bI (mode:=1) (by kernel_rfl) Tryd.func42 (by kernel_rfl) (by kernel_rfl) aHa (by kernel_rfl) (by kernel_rfl)
noncomputable def aC6:SC:=bP Tryd.f43
noncomputable def AM:Nat → Code:=lpOf Tryd.f43
theorem aBF:aP (aY Tryd.f43) = true:=by kernel_rfl
theorem aI4:aA env L (n + 1) 43 args h = aN env (aA env L n) L h.length [] (U2 (Z2 (U2 (Z16 (Z4 ([])))))) AM aC6 (args ++ List.replicate (Tryd.f43.ntmps - args.length) (.d .undef)) h (kFin env.P h.length false [.tmp 4]) :=
 bI (mode:=1) (by kernel_rfl) Tryd.func43 (by kernel_rfl) (by kernel_rfl) aBF (by kernel_rfl) (by kernel_rfl)
noncomputable def MS:SC:=dT Tryd.f43 0
theorem NO:aU env call L nf thaw live (AM 0) m (n + 1) s h k = aN env call L nf thaw live AM MS s h (dS env call L nf thaw live (AM 0) m n k) :=
 a8 aBF (by kernel_rfl)
noncomputable def SN:SC:=bP Tryd.f44
noncomputable def jR:Nat → Code:=lpOf Tryd.f44
theorem EZ:aP (aY Tryd.f44) = true:=by kernel_rfl
theorem aE9:aA env L (n + 1) 44 args h = aN env (aA env L n) L h.length [0,0,0,0,0,0,0,2] (Z1 (U4 (U1 (Z1 (U1 (Z4 (Z2 (Z1 (U2 (U1 (Z8 (Z4 (Z1 (U2 (U1 (Z16 (Z8 (Z4 (Z2 ([])))))))))))))))))))) jR SN (args ++ List.replicate (Tryd.f44.ntmps - args.length) (.d .undef)) h (kFin env.P h.length false Tryd.f44.results.toList) :=
 bI (mode:=2) (by kernel_rfl) Tryd.func44 (by kernel_rfl) (by kernel_rfl) EZ (by kernel_rfl) (by kernel_rfl)
noncomputable def qI:SC:=dT Tryd.f44 0
theorem pR:aU env call L nf thaw live (jR 0) m (n + 1) s h k = aN env call L nf thaw live jR qI s h (dS env call L nf thaw live (jR 0) m n k) :=
 a8 EZ (by kernel_rfl)
noncomputable def CI:SC:=dT Tryd.f44 1
theorem FX:aU env call L nf thaw live (jR 1) m (n + 1) s h k = aN env call L nf thaw live jR CI s h (dS env call L nf thaw live (jR 1) m n k) :=
 a8 EZ (by kernel_rfl)
noncomputable def SW:SC:=bP Tryd.f45
noncomputable def aEM:Nat → Code:=lpOf Tryd.f45
theorem aE4:aP (aY Tryd.f45) = true:=by kernel_rfl
theorem aE0:aA env L (n + 1) 45 args h = aN env (aA env L n) L h.length [] ([]) aEM SW (args ++ List.replicate (Tryd.f45.ntmps - args.length) (.d .undef)) h (kFin env.P h.length false [.tmp 4,.tmp 5]) :=
 bI (mode:=1) (by kernel_rfl) Tryd.func45 (by kernel_rfl) (by kernel_rfl) aE4 (by kernel_rfl) (by kernel_rfl)
noncomputable def MC:SC:=bP Tryd.f46
noncomputable def ZJ:Nat → Code:=lpOf Tryd.f46
theorem YP:aP (aY Tryd.f46) = true:=by kernel_rfl
theorem Z3:aA env L (n + 1) 46 args h = aN env (aA env L n) L h.length [] ([]) ZJ MC (args ++ List.replicate (Tryd.f46.ntmps - args.length) (.d .undef)) h (kFin env.P h.length false [.tmp 4]) :=
 bI (mode:=1) (by kernel_rfl) Tryd.func46 (by kernel_rfl) (by kernel_rfl) YP (by kernel_rfl) (by kernel_rfl)
noncomputable def PJ:SC:=bP Tryd.f47
noncomputable def aHQ:Nat → Code:=lpOf Tryd.f47
theorem aHq:aP (aY Tryd.f47) = true:=by kernel_rfl
theorem YF:aA env L (n + 1) 47 args h = aN env (aA env L n) L h.length [] ([]) aHQ PJ (args ++ List.replicate (Tryd.f47.ntmps - args.length) (.d .undef)) h (kFin env.P h.length false Tryd.f47.results.toList) :=
 bI (mode:=0) (by kernel_rfl) Tryd.func47 (by kernel_rfl) (by kernel_rfl) aHq (by kernel_rfl) (by kernel_rfl)
noncomputable def qF:SC:=bP Tryd.f48
noncomputable def aBK:Nat → Code:=lpOf Tryd.f48
theorem aAR:aP (aY Tryd.f48) = true:=by kernel_rfl
theorem sP:aA env L (n + 1) 48 args h = aN env (aA env L n) L h.length [] ([]) aBK qF (args ++ List.replicate (Tryd.f48.ntmps - args.length) (.d .undef)) h (kFin env.P h.length false [.tmp 4]) :=
 bI (mode:=0) (by kernel_rfl) Tryd.func48 (by kernel_rfl) (by kernel_rfl) aAR (by kernel_rfl) (by kernel_rfl)
noncomputable def aDC:SC:=bP Tryd.f50
noncomputable def uM:Nat → Code:=lpOf Tryd.f50
theorem aBS:aP (aY Tryd.f50) = true:=by kernel_rfl
theorem aJB:aA env L (n + 1) 50 args h = aN env (aA env L n) L h.length [] (U1 (Z1 (U2 (U1 (Z16 (Z8 (Z4 (Z2 (Z1 ([])))))))))) uM aDC (args ++ List.replicate (Tryd.f50.ntmps - args.length) (.d .undef)) h (kFin env.P h.length false Tryd.f50.results.toList) :=
 bI (mode:=0) (by kernel_rfl) Tryd.func50 (by kernel_rfl) (by kernel_rfl) aBS (by kernel_rfl) (by kernel_rfl)
noncomputable def C6:SC:=dT Tryd.f50 0
theorem CM:aU env call L nf thaw live (uM 0) m (n + 1) s h k = aN env call L nf thaw live uM C6 s h (dS env call L nf thaw live (uM 0) m n k) :=
 a8 aBS (by kernel_rfl)
noncomputable def mL:SC:=bP Tryd.f51
noncomputable def tY:Nat → Code:=lpOf Tryd.f51
theorem S3:aP (aY Tryd.f51) = true:=by kernel_rfl
theorem mN:aA env L (n + 1) 51 args h = aN env (aA env L n) L h.length [0,0,0,0,0,0,0,0,0,0,0,0,0,0,0,0,0,0,0,0,0,0,0,0,0,0,0,0,0,0,0,0,0,0,0,0,0,0,0,0,0,0,0,0,0,0,0,0,0,0,0,0,0,0,0,0,0,0,0,0,0,0,0,0,0,0,0,0,0,0,0,0,0,0,0,0,0,0,0,0,0,0,0,1002,0,0,0,0,0,0,0,0,0,0,0,0,0,0,0,0,0,0,0,0,0,1002] (Z4 (U2 (U1 (Z32 (Z32 (Z32 (Z8 (Z2 (Z1 ([])))))))))) tY mL (args ++ List.replicate (Tryd.f51.ntmps - args.length) (.d .undef)) h (kFin env.P h.length false Tryd.f51.results.toList) :=
 bI (mode:=0) (by kernel_rfl) Tryd.func51 (by kernel_rfl) (by kernel_rfl) S3 (by kernel_rfl) (by kernel_rfl)
noncomputable def E7:SC:=dT Tryd.f51 0
theorem HI:aU env call L nf thaw live (tY 0) m (n + 1) s h k = aN env call L nf thaw live tY E7 s h (dS env call L nf thaw live (tY 0) m n k) :=
 a8 S3 (by kernel_rfl)
noncomputable def KX:SC:=bP Tryd.f52
noncomputable def YX:Nat → Code:=lpOf Tryd.f52
theorem ZI:aP (aY Tryd.f52) = true:=by kernel_rfl
theorem Y6:aA env L (n + 1) 52 args h = aN env (aA env L n) L h.length [] ([]) YX KX (args ++ List.replicate (Tryd.f52.ntmps - args.length) (.d .undef)) h (kFin env.P h.length false [.tmp 10,.tmp 11]) :=
 bI (mode:=1) (by kernel_rfl) Tryd.func52 (by kernel_rfl) (by kernel_rfl) ZI (by kernel_rfl) (by kernel_rfl)
noncomputable def NB:SC:=bP Tryd.f55
noncomputable def Z7:Nat → Code:=lpOf Tryd.f55
theorem aAc:aP (aY Tryd.f55) = true:=by kernel_rfl
theorem aAm:aA env L (n + 1) 55 args h = aN env (aA env L n) L h.length [] ([]) Z7 NB (args ++ List.replicate (Tryd.f55.ntmps - args.length) (.d .undef)) h (kFin env.P h.length false [.tmp 2]) :=
 bI (mode:=1) (by kernel_rfl) Tryd.func55 (by kernel_rfl) (by kernel_rfl) aAc (by kernel_rfl) (by kernel_rfl)
noncomputable def KN:SC:=bP Tryd.f56
noncomputable def A2:Nat → Code:=lpOf Tryd.f56
theorem aBn:aP (aY Tryd.f56) = true:=by kernel_rfl
theorem PF:aA env L (n + 1) 56 args h = aN env (aA env L n) L h.length [] (U1 (Z1 (U1 (Z2 (Z1 (U2 (Z16 (Z4 (Z2 (Z1 ([]))))))))))) A2 KN (args ++ List.replicate (Tryd.f56.ntmps - args.length) (.d .undef)) h (kFin env.P h.length false [.tmp 6]) :=
 bI (mode:=1) (by kernel_rfl) Tryd.func56 (by kernel_rfl) (by kernel_rfl) aBn (by kernel_rfl) (by kernel_rfl)
noncomputable def vU:SC:=dT Tryd.f56 0
theorem uO:aU env call L nf thaw live (A2 0) m (n + 1) s h k = aN env call L nf thaw live A2 vU s h (dS env call L nf thaw live (A2 0) m n k) :=
 a8 aBn (by kernel_rfl)
noncomputable def aIb:SC:=bP Tryd.f59
noncomputable def aNG:Nat → Code:=lpOf Tryd.f59
theorem aNU:aP (aY Tryd.f59) = true:=by kernel_rfl
theorem aOg:aA env L (n + 1) 59 args h = aN env (aA env L n) L h.length [] ([]) aNG aIb (args ++ List.replicate (Tryd.f59.ntmps - args.length) (.d .undef)) h (kFin env.P h.length false [.tmp 4]) :=
 bI (mode:=1) (by kernel_rfl) Tryd.func59 (by kernel_rfl) (by kernel_rfl) aNU (by kernel_rfl) (by kernel_rfl)
noncomputable def ND:SC:=bP Tryd.f60
noncomputable def aAS:Nat → Code:=lpOf Tryd.f60
theorem aAT:aP (aY Tryd.f60) = true:=by kernel_rfl
theorem aBw:aA env L (n + 1) 60 args h = aN env (aA env L n) L h.length [] ([]) aAS ND (args ++ List.replicate (Tryd.f60.ntmps - args.length) (.d .undef)) h (kFin env.P h.length false [.tmp 2]) :=
 bI (mode:=1) (by kernel_rfl) Tryd.func60 (by kernel_rfl) (by kernel_rfl) aAT (by kernel_rfl) (by kernel_rfl)
noncomputable def Q1:SC:=bP Tryd.f61
noncomputable def aCN:Nat → Code:=lpOf Tryd.f61
theorem aCx:aP (aY Tryd.f61) = true:=by kernel_rfl
theorem aCq:aA env L (n + 1) 61 args h = aN env (aA env L n) L h.length [] ([]) aCN Q1 (args ++ List.replicate (Tryd.f61.ntmps - args.length) (.d .undef)) h (kFin env.P h.length false [.tmp 4]) :=
 bI (mode:=0) (by kernel_rfl) Tryd.func61 (by kernel_rfl) (by kernel_rfl) aCx (by kernel_rfl) (by kernel_rfl)
noncomputable def aEC:SC:=bP Tryd.f62
noncomputable def aJl:Nat → Code:=lpOf Tryd.f62
theorem aJi:aP (aY Tryd.f62) = true:=by kernel_rfl
theorem aIO:aA env L (n + 1) 62 args h = aN env (aA env L n) L h.length [] ([]) aJl aEC (args ++ List.replicate (Tryd.f62.ntmps - args.length) (.d .undef)) h (kFin env.P h.length false [.tmp 4]) :=
 bI (mode:=1) (by kernel_rfl) Tryd.func62 (by kernel_rfl) (by kernel_rfl) aJi (by kernel_rfl) (by kernel_rfl)
noncomputable def aDf:SC:=bP Tryd.f63
noncomputable def aIU:Nat → Code:=lpOf Tryd.f63
theorem aI2:aP (aY Tryd.f63) = true:=by kernel_rfl
theorem aJd:aA env L (n + 1) 63 args h = aN env (aA env L n) L h.length [] ([]) aIU aDf (args ++ List.replicate (Tryd.f63.ntmps - args.length) (.d .undef)) h (kFin env.P h.length false [.tmp 2]) :=
 bI (mode:=1) (by kernel_rfl) Tryd.func63 (by kernel_rfl) (by kernel_rfl) aI2 (by kernel_rfl) (by kernel_rfl)
noncomputable def WH:SC:=bP Tryd.f64
noncomputable def tG:Nat → Code:=lpOf Tryd.f64
theorem TS:aP (aY Tryd.f64) = true:=by kernel_rfl
theorem aG6:aA env L (n + 1) 64 args h = aN env (aA env L n) L h.length [] (U2 (Z2 (U2 (U1 (Z8 (Z2 (Z1 ([])))))))) tG WH (args ++ List.replicate (Tryd.f64.ntmps - args.length) (.d .undef)) h (kFin env.P h.length false [.tmp 4]) :=
 bI (mode:=1) (by kernel_rfl) Tryd.func64 (by kernel_rfl) (by kernel_rfl) TS (by kernel_rfl) (by kernel_rfl)
noncomputable def wR:SC:=dT Tryd.f64 0
theorem w8:aU env call L nf thaw live (tG 0) m (n + 1) s h k = aN env call L nf thaw live tG wR s h (dS env call L nf thaw live (tG 0) m n k) :=
 a8 TS (by kernel_rfl)
noncomputable def aGk:SC:=bP Tryd.f65
noncomputable def D0:Nat → Code:=lpOf Tryd.f65
theorem aEc:aP (aY Tryd.f65) = true:=by kernel_rfl
theorem aLn:aA env L (n + 1) 65 args h = aN env (aA env L n) L h.length [] (Z1 (U2 (Z4 (U1 (Z16 (Z2 (Z1 (U2 (U1 (Z8 (Z4 (Z2 (Z1 ([])))))))))))))) D0 aGk (args ++ List.replicate (Tryd.f65.ntmps - args.length) (.d .undef)) h (kFin env.P h.length false Tryd.f65.results.toList) :=
 bI (mode:=2) (by kernel_rfl) Tryd.func65 (by kernel_rfl) (by kernel_rfl) aEc (by kernel_rfl) (by kernel_rfl)
noncomputable def GO:SC:=dT Tryd.f65 0
theorem E9:aU env call L nf thaw live (D0 0) m (n + 1) s h k = aN env call L nf thaw live D0 GO s h (dS env call L nf thaw live (D0 0) m n k) :=
 a8 aEc (by kernel_rfl)
noncomputable def K4:SC:=bP Tryd.f66
noncomputable def YK:Nat → Code:=lpOf Tryd.f66
theorem YS:aP (aY Tryd.f66) = true:=by kernel_rfl
theorem YR:aA env L (n + 1) 66 args h = aN env (aA env L n) L h.length [] ([]) YK K4 (args ++ List.replicate (Tryd.f66.ntmps - args.length) (.d .undef)) h (kFin env.P h.length false [.tmp 4]) :=
 bI (mode:=0) (by kernel_rfl) Tryd.func66 (by kernel_rfl) (by kernel_rfl) YS (by kernel_rfl) (by kernel_rfl)
noncomputable def SG:SC:=bP Tryd.f68
noncomputable def aEU:Nat → Code:=lpOf Tryd.f68
theorem aE3:aP (aY Tryd.f68) = true:=by kernel_rfl
theorem aFa:aA env L (n + 1) 68 args h = aN env (aA env L n) L h.length [] ([]) aEU SG (args ++ List.replicate (Tryd.f68.ntmps - args.length) (.d .undef)) h (kFin env.P h.length false [.tmp 4]) :=
 bI (mode:=0) (by kernel_rfl) Tryd.func68 (by kernel_rfl) (by kernel_rfl) aE3 (by kernel_rfl) (by kernel_rfl)
noncomputable def PG:SC:=bP Tryd.f70
noncomputable def aHG:Nat → Code:=lpOf Tryd.f70
theorem aHP:aP (aY Tryd.f70) = true:=by kernel_rfl
theorem WM:aA env L (n + 1) 70 args h = aN env (aA env L n) L h.length [] ([]) aHG PG (args ++ List.replicate (Tryd.f70.ntmps - args.length) (.d .undef)) h (kFin env.P h.length false Tryd.f70.results.toList) :=
 bI (mode:=0) (by kernel_rfl) Tryd.func70 (by kernel_rfl) (by kernel_rfl) aHP (by kernel_rfl) (by kernel_rfl)
noncomputable def aAW:SC:=bP Tryd.f71
noncomputable def pH:Nat → Code:=lpOf Tryd.f71
theorem YG:aP (aY Tryd.f71) = true:=by kernel_rfl
theorem aHg:aA env L (n + 1) 71 args h = aN env (aA env L n) L h.length [0,0,0,0,0,0,0,0,0,0,0,0,0,0,0,0,0,0,0,0,0,0,0,0,0,0,0,0,1002] (Z1 (U4 (Z16 (Z8 (Z2 (Z1 ([]))))))) pH aAW (args ++ List.replicate (Tryd.f71.ntmps - args.length) (.d .undef)) h (kFin env.P h.length true Tryd.f71.results.toList) :=
 bI (mode:=2) (by kernel_rfl) Tryd.func71 (by kernel_rfl) (by kernel_rfl) YG (by kernel_rfl) (by kernel_rfl)
noncomputable def yW:SC:=dT Tryd.f71 0
theorem zR:aU env call L nf thaw live (pH 0) m (n + 1) s h k = aN env call L nf thaw live pH yW s h (dS env call L nf thaw live (pH 0) m n k) :=
 a8 YG (by kernel_rfl)
noncomputable def DJ:SC:=bP Tryd.f72
noncomputable def RX:Nat → Code:=lpOf Tryd.f72
theorem R3:aP (aY Tryd.f72) = true:=by kernel_rfl
theorem R2:aA env L (n + 1) 72 args h = aN env (aA env L n) L h.length [] ([]) RX DJ (args ++ List.replicate (Tryd.f72.ntmps - args.length) (.d .undef)) h (kFin env.P h.length false [.tmp 9]) :=
 bI (mode:=0) (by kernel_rfl) Tryd.func72 (by kernel_rfl) (by kernel_rfl) R3 (by kernel_rfl) (by kernel_rfl)
noncomputable def wP:SC:=bP Tryd.f73
noncomputable def eT:Nat → Code:=lpOf Tryd.f73
theorem uE:aP (aY Tryd.f73) = true:=by kernel_rfl
theorem CL:aA env L (n + 1) 73 args h = aN env (aA env L n) L h.length [0,0,0,0,0,0,0,0,0,0,0,0,0,0,0,0,0,0,2] (Z2 (U2 (Z4 (Z2 (U2 (Z1 (U2 (U1 (Z1 (U2 (Z8 (Z4 (Z2 (U2 (U1 (Z4 (Z2 (Z1 (U2 (U1 (Z16 (Z1 ([]))))))))))))))))))))))) eT wP (args ++ List.replicate (Tryd.f73.ntmps - args.length) (.d .undef)) h (kFin env.P h.length false [.tmp 10,.tmp 11]) :=
 bI (mode:=1) (by kernel_rfl) Tryd.func73 (by kernel_rfl) (by kernel_rfl) uE (by kernel_rfl) (by kernel_rfl)
noncomputable def o8:SC:=dT Tryd.f73 0
theorem oQ:aU env call L nf thaw live (eT 0) m (n + 1) s h k = aN env call L nf thaw live eT o8 s h (dS env call L nf thaw live (eT 0) m n k) :=
 a8 uE (by kernel_rfl)
noncomputable def sV:SC:=dT Tryd.f73 1
theorem tH:aU env call L nf thaw live (eT 1) m (n + 1) s h k = aN env call L nf thaw live eT sV s h (dS env call L nf thaw live (eT 1) m n k) :=
 a8 uE (by kernel_rfl)
noncomputable def yY:SC:=dT Tryd.f73 2
theorem ES:aU env call L nf thaw live (eT 2) m (n + 1) s h k = aN env call L nf thaw live eT yY s h (dS env call L nf thaw live (eT 2) m n k) :=
 a8 uE (by kernel_rfl)
noncomputable def DT:SC:=bP Tryd.f74
noncomputable def RY:Nat → Code:=lpOf Tryd.f74
theorem RW:aP (aY Tryd.f74) = true:=by kernel_rfl
theorem RV:aA env L (n + 1) 74 args h = aN env (aA env L n) L h.length [] ([]) RY DT (args ++ List.replicate (Tryd.f74.ntmps - args.length) (.d .undef)) h (kFin env.P h.length false [.tmp 6]) :=
 bI (mode:=0) (by kernel_rfl) Tryd.func74 (by kernel_rfl) (by kernel_rfl) RW (by kernel_rfl) (by kernel_rfl)
noncomputable def u3:SC:=bP Tryd.f83
noncomputable def IJ:Nat → Code:=lpOf Tryd.f83
theorem JG:aP (aY Tryd.f83) = true:=by kernel_rfl
theorem JV:aA env L (n + 1) 83 args h = aN env (aA env L n) L h.length [] ([]) IJ u3 (args ++ List.replicate (Tryd.f83.ntmps - args.length) (.d .undef)) h (kFin env.P h.length false [.tmp 2]) :=
 bI (mode:=1) (by kernel_rfl) Tryd.func83 (by kernel_rfl) (by kernel_rfl) JG (by kernel_rfl) (by kernel_rfl)
noncomputable def I8:SC:=bP Tryd.f84
noncomputable def fC:Nat → Code:=lpOf Tryd.f84
theorem vG:aP (aY Tryd.f84) = true:=by kernel_rfl
theorem V3:aA env L (n + 1) 84 args h = aN env (aA env L n) L h.length [0,0,0,0,0,0,0,0,0,0,0,0,0,2,0,2] (Z1 (U2 (U1 (Z4 (U8 (Z16 (U2 (U1 (Z32 (Z8 (Z2 ([])))))))))))) fC I8 (args ++ List.replicate (Tryd.f84.ntmps - args.length) (.d .undef)) h (kFin env.P h.length false [.tmp 8,.tmp 9,.tmp 10]) :=
 bI (mode:=2) (by kernel_rfl) Tryd.func84 (by kernel_rfl) (by kernel_rfl) vG (by kernel_rfl) (by kernel_rfl)
noncomputable def s6:SC:=dT Tryd.f84 0
theorem xP:aU env call L nf thaw live (fC 0) m (n + 1) s h k = aN env call L nf thaw live fC s6 s h (dS env call L nf thaw live (fC 0) m n k) :=
 a8 vG (by kernel_rfl)
noncomputable def oR:SC:=dT Tryd.f84 1
theorem pT:aU env call L nf thaw live (fC 1) m (n + 1) s h k = aN env call L nf thaw live fC oR s h (dS env call L nf thaw live (fC 1) m n k) :=
 a8 vG (by kernel_rfl)
noncomputable def W8:SC:=bP Tryd.f85
noncomputable def aFq:Nat → Code:=lpOf Tryd.f85
theorem aFG:aP (aY Tryd.f85) = true:=by kernel_rfl
theorem aFt:aA env L (n + 1) 85 args h = aN env (aA env L n) L h.length [] ([]) aFq W8 (args ++ List.replicate (Tryd.f85.ntmps - args.length) (.d .undef)) h (kFin env.P h.length false [.tmp 5]) :=
 bI (mode:=0) (by kernel_rfl) Tryd.func85 (by kernel_rfl) (by kernel_rfl) aFG (by kernel_rfl) (by kernel_rfl)
noncomputable def aBu:SC:=bP Tryd.f90
noncomputable def kI:Nat → Code:=lpOf Tryd.f90
theorem M6:aP (aY Tryd.f90) = true:=by kernel_rfl
theorem aHM:aA env L (n + 1) 90 args h = aN env (aA env L n) L h.length [] (Z2 (U1 (Z2 (Z1 (U4 (Z32 (Z4 (Z2 (Z1 ([])))))))))) kI aBu (args ++ List.replicate (Tryd.f90.ntmps - args.length) (.d .undef)) h (kFin env.P h.length false Tryd.f90.results.toList) :=
 bI (mode:=0) (by kernel_rfl) Tryd.func90 (by kernel_rfl) (by kernel_rfl) M6 (by kernel_rfl) (by kernel_rfl)
noncomputable def I7:SC:=dT Tryd.f90 0
theorem KH:aU env call L nf thaw live (kI 0) m (n + 1) s h k = aN env call L nf thaw live kI I7 s h (dS env call L nf thaw live (kI 0) m n k) :=
 a8 M6 (by kernel_rfl)
noncomputable def JP:SC:=dT Tryd.f90 1
theorem K9:aU env call L nf thaw live (kI 1) m (n + 1) s h k = aN env call L nf thaw live kI JP s h (dS env call L nf thaw live (kI 1) m n k) :=
 a8 M6 (by kernel_rfl)
noncomputable def UX:SC:=bP Tryd.f91
noncomputable def hU:Nat → Code:=lpOf Tryd.f91
theorem E4:aP (aY Tryd.f91) = true:=by kernel_rfl
theorem aEX:aA env L (n + 1) 91 args h = aN env (aA env L n) L h.length [0,0,0,0,0,0,0,0,0,0,0,0,0,0,0,0,0,0,0,0,0,0,0,0,0,0,0,0,0,0,0,0,0,0,0,0,0,1002] (U1 (Z1 (U1 (Z2 (Z1 (U4 (U2 (Z32 (Z4 (Z1 ([]))))))))))) hU UX (args ++ List.replicate (Tryd.f91.ntmps - args.length) (.d .undef)) h (kFin env.P h.length true Tryd.f91.results.toList) :=
 bI (mode:=0) (by kernel_rfl) Tryd.func91 (by kernel_rfl) (by kernel_rfl) E4 (by kernel_rfl) (by kernel_rfl)
noncomputable def uG:SC:=dT Tryd.f91 0
theorem vE:aU env call L nf thaw live (hU 0) m (n + 1) s h k = aN env call L nf thaw live hU uG s h (dS env call L nf thaw live (hU 0) m n k) :=
 a8 E4 (by kernel_rfl)
noncomputable def p9:SC:=dT Tryd.f91 1
theorem pL:aU env call L nf thaw live (hU 1) m (n + 1) s h k = aN env call L nf thaw live hU p9 s h (dS env call L nf thaw live (hU 1) m n k) :=
 a8 E4 (by kernel_rfl)
noncomputable def qV:SC:=bP Tryd.f92
noncomputable def kW:Nat → Code:=lpOf Tryd.f92
theorem FI:aP (aY Tryd.f92) = true:=by kernel_rfl
theorem vI:aA env L (n + 1) 92 args h = aN env (aA env L n) L h.length [0,0,0,0,0,0,0,0,0,0,2] (U2 (Z1 (U2 (U1 (Z2 (Z1 (U2 (U1 (Z2 (U2 (U1 (Z32 (Z1 ([])))))))))))))) kW qV (args ++ List.replicate (Tryd.f92.ntmps - args.length) (.d .undef)) h (kFin env.P h.length false [.tmp 9]) :=
 bI (mode:=0) (by kernel_rfl) Tryd.func92 (by kernel_rfl) (by kernel_rfl) FI (by kernel_rfl) (by kernel_rfl)
noncomputable def d5:SC:=dT Tryd.f92 0
theorem dR:aU env call L nf thaw live (kW 0) m (n + 1) s h k = aN env call L nf thaw live kW d5 s h (dS env call L nf thaw live (kW 0) m n k) :=
 a8 FI (by kernel_rfl)
noncomputable def SA:SC:=bP Tryd.f93
noncomputable def rO:Nat → Code:=lpOf Tryd.f93
theorem Q2:aP (aY Tryd.f93) = true:=by kernel_rfl
theorem aE7:aA env L (n + 1) 93 args h = aN env (aA env L n) L h.length [0,0,0,2] (U1 (Z1 (U2 (U1 (Z16 (Z8 (Z2 (Z1 ([]))))))))) rO SA (args ++ List.replicate (Tryd.f93.ntmps - args.length) (.d .undef)) h (kFin env.P h.length false [.tmp 2]) :=
 bI (mode:=1) (by kernel_rfl) Tryd.func93 (by kernel_rfl) (by kernel_rfl) Q2 (by kernel_rfl) (by kernel_rfl)
noncomputable def CD:SC:=dT Tryd.f93 0
theorem FJ:aU env call L nf thaw live (rO 0) m (n + 1) s h k = aN env call L nf thaw live rO CD s h (dS env call L nf thaw live (rO 0) m n k) :=
 a8 Q2 (by kernel_rfl)
noncomputable def pU:SC:=bP Tryd.f98
noncomputable def A8:Nat → Code:=lpOf Tryd.f98
theorem A7:aP (aY Tryd.f98) = true:=by kernel_rfl
theorem A5:aA env L (n + 1) 98 args h = aN env (aA env L n) L h.length [] ([]) A8 pU (args ++ List.replicate (Tryd.f98.ntmps - args.length) (.d .undef)) h (kFin env.P h.length false [.tmp 4]) :=
 bI (mode:=1) (by kernel_rfl) Tryd.func98 (by kernel_rfl) (by kernel_rfl) A7 (by kernel_rfl) (by kernel_rfl)
noncomputable def N3:SC:=bP Tryd.f102
noncomputable def aBD:Nat → Code:=lpOf Tryd.f102
theorem aAv:aP (aY Tryd.f102) = true:=by kernel_rfl
theorem aBR:aA env L (n + 1) 102 args h = aN env (aA env L n) L h.length [] ([]) aBD N3 (args ++ List.replicate (Tryd.f102.ntmps - args.length) (.d .undef)) h (kFin env.P h.length false [.tmp 2]) :=
 bI (mode:=1) (by kernel_rfl) Tryd.func102 (by kernel_rfl) (by kernel_rfl) aAv (by kernel_rfl) (by kernel_rfl)
noncomputable def rP:SC:=bP Tryd.f103
noncomputable def fA:Nat → Code:=lpOf Tryd.f103
theorem qN:aP (aY Tryd.f103) = true:=by kernel_rfl
theorem D6:aA env L (n + 1) 103 args h = aN env (aA env L n) L h.length [] (U1 (Z1 (U2 (Z16 (Z8 ([])))))) fA rP (args ++ List.replicate (Tryd.f103.ntmps - args.length) (.d .undef)) h (kFin env.P h.length false []) :=
 bI (mode:=0) (by kernel_rfl) Tryd.func103 (by kernel_rfl) (by kernel_rfl) qN (by kernel_rfl) (by kernel_rfl)
noncomputable def iT:SC:=dT Tryd.f103 0
theorem kA:aU env call L nf thaw live (fA 0) m (n + 1) s h k = aN env call L nf thaw live fA iT s h (dS env call L nf thaw live (fA 0) m n k) :=
 a8 qN (by kernel_rfl)
noncomputable def kM:SC:=bP Tryd.f105
noncomputable def GN:Nat → Code:=lpOf Tryd.f105
theorem GW:aP (aY Tryd.f105) = true:=by kernel_rfl
theorem nP:aA env L (n + 1) 105 args h = aN env (aA env L n) L h.length [] ([]) GN kM (args ++ List.replicate (Tryd.f105.ntmps - args.length) (.d .undef)) h (kFin env.P h.length false [.tmp 2]) :=
 bI (mode:=1) (by kernel_rfl) Tryd.func105 (by kernel_rfl) (by kernel_rfl) GW (by kernel_rfl) (by kernel_rfl)
end
end Ev
end Go.Proofs.YtppdfjdfjfoddaaDoor
