/-
  Each function's code as an equation. Written by a program.
-/
import Derived.Test.YtejmccgfigiadaaGreatEnv
set_option maxRecDepth 100000
namespace Go.Proofs.YtejmccgfigiadaaGreat
namespace Ev
section
variable {R:Type} {call:aW} {L nf n:Nat} {thaw:List Nat} {live m:List Bool} {s args:List A} {h:H} {k:KE R}
noncomputable def lR:SC:=aZ Tryz.f6
noncomputable def kG:Nat → Code:=lpOf Tryz.f6
theorem FD:aP (aS Tryz.f6) = true:=kr
theorem pA:aA env L (n + 1) 6 args h = aK env (aA env L n) L h.length [] Bz25 kG lR (args ++ List.replicate (Tryz.f6.ntmps - args.length) (.d .undef)) h (kFin env.P h.length false [.tmp 2]) :=
 aV (mode:=1) kr Tryz.func6 kr kr FD kr kr
noncomputable def tT:SC:=bD Tryz.f6 0
theorem wV:aM env call L nf thaw live (kG 0) m (n + 1) s h k = aK env call L nf thaw live kG tT s h (bE env call L nf thaw live (kG 0) m n k) :=
 aQ FD kr
noncomputable def kE:SC:=aZ Tryz.f13
noncomputable def cU:Nat → Code:=lpOf Tryz.f13
theorem qO:aP (aS Tryz.f13) = true:=kr
theorem lP:aA env L (n + 1) 13 args h = aK env (aA env L n) L h.length [] Bz10 cU kE (args ++ List.replicate (Tryz.f13.ntmps - args.length) (.d .undef)) h (kFin env.P h.length false [.tmp 4,.tmp 5]) :=
 aV (mode:=2) kr Tryz.func13 kr kr qO kr kr
noncomputable def o9:SC:=bD Tryz.f13 0
theorem pR:aM env call L nf thaw live (cU 0) m (n + 1) s h k = aK env call L nf thaw live cU o9 s h (bE env call L nf thaw live (cU 0) m n k) :=
 aQ qO kr
noncomputable def oY:SC:=bD Tryz.f13 1
theorem qD:aM env call L nf thaw live (cU 1) m (n + 1) s h k = aK env call L nf thaw live cU oY s h (bE env call L nf thaw live (cU 1) m n k) :=
 aQ qO kr
noncomputable def oK:SC:=bD Tryz.f13 2
theorem pU:aM env call L nf thaw live (cU 2) m (n + 1) s h k = aK env call L nf thaw live cU oK s h (bE env call L nf thaw live (cU 2) m n k) :=
 aQ qO kr
noncomputable def kD:SC:=aZ Tryz.f15
noncomputable def cT:Nat → Code:=lpOf Tryz.f15
theorem qW:aP (aS Tryz.f15) = true:=kr
theorem mK:aA env L (n + 1) 15 args h = aK env (aA env L n) L h.length [] Bz1 cT kD (args ++ List.replicate (Tryz.f15.ntmps - args.length) (.d .undef)) h (kFin env.P h.length true [.tmp 4,.tmp 5]) :=
 aV (mode:=3) kr Tryz.func15 kr kr qW kr kr
noncomputable def oL:SC:=bD Tryz.f15 0
theorem pM:aM env call L nf thaw live (cT 0) m (n + 1) s h k = aK env call L nf thaw live cT oL s h (bE env call L nf thaw live (cT 0) m n k) :=
 aQ qW kr
noncomputable def o7:SC:=bD Tryz.f15 1
theorem qC:aM env call L nf thaw live (cT 1) m (n + 1) s h k = aK env call L nf thaw live cT o7 s h (bE env call L nf thaw live (cT 1) m n k) :=
 aQ qW kr
noncomputable def v8:SC:=bD Tryz.f15 2
theorem zK:aM env call L nf thaw live (cT 2) m (n + 1) s h k = aK env call L nf thaw live cT v8 s h (bE env call L nf thaw live (cT 2) m n k) :=
 aQ qW kr
noncomputable def AT:SC:=aZ Tryz.f25
noncomputable def OX:Nat → Code:=lpOf Tryz.f25
theorem PD:aP (aS Tryz.f25) = true:=kr
theorem NR:aA env L (n + 1) 25 args h = aK env (aA env L n) L h.length [] ([]) OX AT (args ++ List.replicate (Tryz.f25.ntmps - args.length) (.d .undef)) h (kFin env.P h.length false Tryz.f25.results.toList) :=
 aV (mode:=2) kr Tryz.func25 kr kr PD kr kr
noncomputable def SI:SC:=aZ Tryz.f26
noncomputable def p9:Nat → Code:=lpOf Tryz.f26
theorem P6:aP (aS Tryz.f26) = true:=kr
theorem aE3:aA env L (n + 1) 26 args h = aK env (aA env L n) L h.length [] Bz53 p9 SI (args ++ List.replicate (Tryz.f26.ntmps - args.length) (.d .undef)) h (kFin env.P h.length false [.tmp 4]) :=
 aV (mode:=1) kr Tryz.func26 kr kr P6 kr kr
noncomputable def AB:SC:=bD Tryz.f26 0
theorem DI:aM env call L nf thaw live (p9 0) m (n + 1) s h k = aK env call L nf thaw live p9 AB s h (bE env call L nf thaw live (p9 0) m n k) :=
 aQ P6 kr
noncomputable def G6:SC:=aZ Tryz.f27
noncomputable def pI:Nat → Code:=lpOf Tryz.f27
theorem O0:aP (aS Tryz.f27) = true:=kr
theorem OY:aA env L (n + 1) 27 args h = aK env (aA env L n) L h.length [] Bz13 pI G6 (args ++ List.replicate (Tryz.f27.ntmps - args.length) (.d .undef)) h (kFin env.P h.length false [.tmp 4]) :=
 aV (mode:=1) kr Tryz.func27 kr kr O0 kr kr
noncomputable def sR:SC:=bD Tryz.f27 0
theorem tJ:aM env call L nf thaw live (pI 0) m (n + 1) s h k = aK env call L nf thaw live pI sR s h (bE env call L nf thaw live (pI 0) m n k) :=
 aQ O0 kr
noncomputable def H2:SC:=aZ Tryz.f30
noncomputable def kJ:Nat → Code:=lpOf Tryz.f30
theorem FR:aP (aS Tryz.f30) = true:=kr
theorem VU:aA env L (n + 1) 30 args h = aK env (aA env L n) L h.length [0,0,0,2] Bz42 kJ H2 (args ++ List.replicate (Tryz.f30.ntmps - args.length) (.d .undef)) h (kFin env.P h.length true [.tmp 2]) :=
 aV (mode:=3) kr Tryz.func30 kr kr FR kr kr
noncomputable def nB:SC:=bD Tryz.f30 0
theorem oH:aM env call L nf thaw live (kJ 0) m (n + 1) s h k = aK env call L nf thaw live kJ nB s h (bE env call L nf thaw live (kJ 0) m n k) :=
 aQ FR kr
noncomputable def wO:SC:=aZ Tryz.f31
noncomputable def cN:Nat → Code:=lpOf Tryz.f31
theorem m7:aP (aS Tryz.f31) = true:=kr
theorem JF:aA env L (n + 1) 31 args h = aK env (aA env L n) L h.length [] Bz15 cN wO (args ++ List.replicate (Tryz.f31.ntmps - args.length) (.d .undef)) h (kFin env.P h.length true [.tmp 2]) :=
 aV (mode:=3) kr Tryz.func31 kr kr m7 kr kr
noncomputable def lZ:SC:=bD Tryz.f31 0
theorem pT:aM env call L nf thaw live (cN 0) m (n + 1) s h k = aK env call L nf thaw live cN lZ s h (bE env call L nf thaw live (cN 0) m n k) :=
 aQ m7 kr
noncomputable def fR:SC:=bD Tryz.f31 1
theorem gS:aM env call L nf thaw live (cN 1) m (n + 1) s h k = aK env call L nf thaw live cN fR s h (bE env call L nf thaw live (cN 1) m n k) :=
 aQ m7 kr
noncomputable def eK:SC:=aZ Tryz.f41
noncomputable def iD:Nat → Code:=lpOf Tryz.f41
theorem wQ:aP (aS Tryz.f41) = true:=kr
theorem fC:aA env L (n + 1) 41 args h = aK env (aA env L n) L h.length [] Bz48 iD eK (args ++ List.replicate (Tryz.f41.ntmps - args.length) (.d .undef)) h (kFin env.P h.length false [.tmp 2]) :=
 aV (mode:=1) kr Tryz.func41 kr kr wQ kr kr
noncomputable def jN:SC:=bD Tryz.f41 0
theorem kC:aM env call L nf thaw live (iD 0) m (n + 1) s h k = aK env call L nf thaw live iD jN s h (bE env call L nf thaw live (iD 0) m n k) :=
 aQ wQ kr
noncomputable def xI:SC:=aZ Tryz.f42
noncomputable def kK:Nat → Code:=lpOf Tryz.f42
theorem FX:aP (aS Tryz.f42) = true:=kr
theorem FF:aA env L (n + 1) 42 args h = aK env (aA env L n) L h.length [] Bz54 kK xI (args ++ List.replicate (Tryz.f42.ntmps - args.length) (.d .undef)) h (kFin env.P h.length false [.tmp 2]) :=
 aV (mode:=2) kr Tryz.func42 kr kr FX kr kr
noncomputable def tP:SC:=bD Tryz.f42 0
theorem wW:aM env call L nf thaw live (kK 0) m (n + 1) s h k = aK env call L nf thaw live kK tP s h (bE env call L nf thaw live (kK 0) m n k) :=
 aQ FX kr
noncomputable def oF:SC:=aZ Tryz.f43
noncomputable def cM:Nat → Code:=lpOf Tryz.f43
theorem nJ:aP (aS Tryz.f43) = true:=kr
theorem vS:aA env L (n + 1) 43 args h = aK env (aA env L n) L h.length [] Bz32 cM oF (args ++ List.replicate (Tryz.f43.ntmps - args.length) (.d .undef)) h (kFin env.P h.length false [.tmp 2]) :=
 aV (mode:=2) kr Tryz.func43 kr kr nJ kr kr
noncomputable def mF:SC:=bD Tryz.f43 0
theorem pQ:aM env call L nf thaw live (cM 0) m (n + 1) s h k = aK env call L nf thaw live cM mF s h (bE env call L nf thaw live (cM 0) m n k) :=
 aQ nJ kr
noncomputable def fV:SC:=bD Tryz.f43 1
theorem gO:aM env call L nf thaw live (cM 1) m (n + 1) s h k = aK env call L nf thaw live cM fV s h (bE env call L nf thaw live (cM 1) m n k) :=
 aQ nJ kr
noncomputable def LU:SC:=aZ Tryz.f44
noncomputable def eA:Nat → Code:=lpOf Tryz.f44
theorem x5:aP (aS Tryz.f44) = true:=kr
theorem Z7:aA env L (n + 1) 44 args h = aK env (aA env L n) L h.length [] Bz11 eA LU (args ++ List.replicate (Tryz.f44.ntmps - args.length) (.d .undef)) h (kFin env.P h.length false [.tmp 4]) :=
 aV (mode:=2) kr Tryz.func44 kr kr x5 kr kr
noncomputable def oQ:SC:=bD Tryz.f44 0
theorem pF:aM env call L nf thaw live (eA 0) m (n + 1) s h k = aK env call L nf thaw live eA oQ s h (bE env call L nf thaw live (eA 0) m n k) :=
 aQ x5 kr
noncomputable def u6:SC:=bD Tryz.f44 1
theorem yP:aM env call L nf thaw live (eA 1) m (n + 1) s h k = aK env call L nf thaw live eA u6 s h (bE env call L nf thaw live (eA 1) m n k) :=
 aQ x5 kr
noncomputable def BA:SC:=aZ Tryz.f45
noncomputable def sB:Nat → Code:=lpOf Tryz.f45
theorem RP:aP (aS Tryz.f45) = true:=kr
theorem GU:aA env L (n + 1) 45 args h = aK env (aA env L n) L h.length [] Bz49 sB BA (args ++ List.replicate (Tryz.f45.ntmps - args.length) (.d .undef)) h (kFin env.P h.length false [.tmp 4]) :=
 aV (mode:=0) kr Tryz.func45 kr kr RP kr kr
noncomputable def CD:SC:=bD Tryz.f45 0
theorem F7:aM env call L nf thaw live (sB 0) m (n + 1) s h k = aK env call L nf thaw live sB CD s h (bE env call L nf thaw live (sB 0) m n k) :=
 aQ RP kr
noncomputable def eN:SC:=aZ Tryz.f48
noncomputable def dA:Nat → Code:=lpOf Tryz.f48
theorem oJ:aP (aS Tryz.f48) = true:=kr
theorem fD:aA env L (n + 1) 48 args h = aK env (aA env L n) L h.length [] Bz7 dA eN (args ++ List.replicate (Tryz.f48.ntmps - args.length) (.d .undef)) h (kFin env.P h.length false [.tmp 2]) :=
 aV (mode:=1) kr Tryz.func48 kr kr oJ kr kr
noncomputable def gD:SC:=bD Tryz.f48 0
theorem hY:aM env call L nf thaw live (dA 0) m (n + 1) s h k = aK env call L nf thaw live dA gD s h (bE env call L nf thaw live (dA 0) m n k) :=
 aQ oJ kr
noncomputable def gQ:SC:=bD Tryz.f48 1
theorem iA:aM env call L nf thaw live (dA 1) m (n + 1) s h k = aK env call L nf thaw live dA gQ s h (bE env call L nf thaw live (dA 1) m n k) :=
 aQ oJ kr
noncomputable def LT:SC:=aZ Tryz.f49
noncomputable def cV:Nat → Code:=lpOf Tryz.f49
theorem qL:aP (aS Tryz.f49) = true:=kr
theorem aAj:aA env L (n + 1) 49 args h = aK env (aA env L n) L h.length (W8 (W4 [2002])) Bz4 cV LT (args ++ List.replicate (Tryz.f49.ntmps - args.length) (.d .undef)) h (kFin env.P h.length false [.tmp 4]) :=
 aV (mode:=2) kr Tryz.func49 kr kr qL kr kr
noncomputable def vM:SC:=bD Tryz.f49 0
theorem zA:aM env call L nf thaw live (cV 0) m (n + 1) s h k = aK env call L nf thaw live cV vM s h (bE env call L nf thaw live (cV 0) m n k) :=
 aQ qL kr
noncomputable def wH:SC:=bD Tryz.f49 1
theorem zJ:aM env call L nf thaw live (cV 1) m (n + 1) s h k = aK env call L nf thaw live cV wH s h (bE env call L nf thaw live (cV 1) m n k) :=
 aQ qL kr
noncomputable def vJ:SC:=bD Tryz.f49 2
theorem zN:aM env call L nf thaw live (cV 2) m (n + 1) s h k = aK env call L nf thaw live cV vJ s h (bE env call L nf thaw live (cV 2) m n k) :=
 aQ qL kr
theorem wI {L n:Nat} {args:List A} {h:H}:aA env L (n + 1) 50 args h = xO 94 52 args h:=by
 have:env.prim 50 = some (xO 94 52):=kr
 simp only [aA,this]
noncomputable def hU:SC:=aZ Tryz.f51
noncomputable def m3:Nat → Code:=lpOf Tryz.f51
theorem mZ:aP (aS Tryz.f51) = true:=kr
theorem m6:aA env L (n + 1) 51 args h = aK env (aA env L n) L h.length [] ([]) m3 hU (args ++ List.replicate (Tryz.f51.ntmps - args.length) (.d .undef)) h (kFin env.P h.length true [.tmp 2]) :=
 aV (mode:=0) kr Tryz.func51 kr kr mZ kr kr
noncomputable def O2:SC:=aZ Tryz.f52
noncomputable def aC3:Nat → Code:=lpOf Tryz.f52
theorem aCT:aP (aS Tryz.f52) = true:=kr
noncomputable def G8:SC:=aZ Tryz.f61
noncomputable def aDH:Nat → Code:=lpOf Tryz.f61
theorem aER:aP (aS Tryz.f61) = true:=kr
theorem OZ:aA env L (n + 1) 61 args h = aK env (aA env L n) L h.length [] ([]) aDH G8 (args ++ List.replicate (Tryz.f61.ntmps - args.length) (.d .undef)) h (kFin env.P h.length true [.tmp 2]) :=
 aV (mode:=2) kr Tryz.func61 kr kr aER kr kr
noncomputable def iN:SC:=aZ Tryz.f62
noncomputable def aE8:Nat → Code:=lpOf Tryz.f62
theorem aEV:aP (aS Tryz.f62) = true:=kr
theorem iO:aA env L (n + 1) 62 args h = aK env (aA env L n) L h.length [] ([]) aE8 iN (args ++ List.replicate (Tryz.f62.ntmps - args.length) (.d .undef)) h (kFin env.P h.length false Tryz.f62.results.toList) :=
 aV (mode:=0) kr Tryz.func62 kr kr aEV kr kr
noncomputable def NA:SC:=aZ Tryz.f63
noncomputable def aCX:Nat → Code:=lpOf Tryz.f63
theorem aCM:aP (aS Tryz.f63) = true:=kr
theorem aC2:aA env L (n + 1) 63 args h = aK env (aA env L n) L h.length [] ([]) aCX NA (args ++ List.replicate (Tryz.f63.ntmps - args.length) (.d .undef)) h (kFin env.P h.length false [.tmp 2]) :=
 aV (mode:=0) kr Tryz.func63 kr kr aCM kr kr
noncomputable def H4:SC:=aZ Tryz.f64
noncomputable def X6:Nat → Code:=lpOf Tryz.f64
theorem Y6:aP (aS Tryz.f64) = true:=kr
theorem YM:aA env L (n + 1) 64 args h = aK env (aA env L n) L h.length [] ([]) X6 H4 (args ++ List.replicate (Tryz.f64.ntmps - args.length) (.d .undef)) h (kFin env.P h.length false [.tmp 2]) :=
 aV (mode:=1) kr Tryz.func64 kr kr Y6 kr kr
noncomputable def aGH:SC:=aZ Tryz.f65
noncomputable def aKN:Nat → Code:=lpOf Tryz.f65
theorem aLu:aP (aS Tryz.f65) = true:=kr
theorem aKY:aA env L (n + 1) 65 args h = aK env (aA env L n) L h.length [] ([]) aKN aGH (args ++ List.replicate (Tryz.f65.ntmps - args.length) (.d .undef)) h (kFin env.P h.length false [.tmp 4]) :=
 aV (mode:=1) kr Tryz.func65 kr kr aLu kr kr
noncomputable def xK:SC:=aZ Tryz.f68
noncomputable def X7:Nat → Code:=lpOf Tryz.f68
theorem YK:aP (aS Tryz.f68) = true:=kr
theorem EU:aA env L (n + 1) 68 args h = aK env (aA env L n) L h.length [] ([]) X7 xK (args ++ List.replicate (Tryz.f68.ntmps - args.length) (.d .undef)) h (kFin env.P h.length false [.tmp 4,.tmp 5]) :=
 aV (mode:=1) kr Tryz.func68 kr kr YK kr kr
theorem rX {L n:Nat} {args:List A} {h:H}:aA env L (n + 1) 69 args h = DY 52 args h:=by
 have:env.prim 69 = some (DY 52):=kr
 simp only [aA,this]
noncomputable def gJ:SC:=aZ Tryz.f70
noncomputable def TS:Nat → Code:=lpOf Tryz.f70
theorem VR:aP (aS Tryz.f70) = true:=kr
theorem iF:aA env L (n + 1) 70 args h = aK env (aA env L n) L h.length [] ([]) TS gJ (args ++ List.replicate (Tryz.f70.ntmps - args.length) (.d .undef)) h (kFin env.P h.length false [.tmp 6,.tmp 7]) :=
 aV (mode:=1) kr Tryz.func70 kr kr VR kr kr
noncomputable def kA:SC:=aZ Tryz.f71
noncomputable def tC:Nat → Code:=lpOf Tryz.f71
theorem tA:aP (aS Tryz.f71) = true:=kr
theorem tD:aA env L (n + 1) 71 args h = aK env (aA env L n) L h.length [] ([]) tC kA (args ++ List.replicate (Tryz.f71.ntmps - args.length) (.d .undef)) h (kFin env.P h.length false [.tmp 4]) :=
 aV (mode:=1) kr Tryz.func71 kr kr tA kr kr
noncomputable def fG:SC:=aZ Tryz.f72
noncomputable def aCI:Nat → Code:=lpOf Tryz.f72
theorem aCN:aP (aS Tryz.f72) = true:=kr
theorem fM:aA env L (n + 1) 72 args h = aK env (aA env L n) L h.length (W32 (W32 (W16 (W8 (W4 (W1 [1002])))))) ([]) aCI fG (args ++ List.replicate (Tryz.f72.ntmps - args.length) (.d .undef)) h (kFin env.P h.length false Tryz.f72.results.toList) :=
 aV (mode:=0) kr Tryz.func72 kr kr aCN kr kr
noncomputable def mB:SC:=aZ Tryz.f73
noncomputable def X9:Nat → Code:=lpOf Tryz.f73
theorem XC:aP (aS Tryz.f73) = true:=kr
theorem pB:aA env L (n + 1) 73 args h = aK env (aA env L n) L h.length [] ([]) X9 mB (args ++ List.replicate (Tryz.f73.ntmps - args.length) (.d .undef)) h (kFin env.P h.length false [.tmp 4]) :=
 aV (mode:=0) kr Tryz.func73 kr kr XC kr kr
noncomputable def JM:SC:=aZ Tryz.f74
noncomputable def aFY:Nat → Code:=lpOf Tryz.f74
theorem aFw:aP (aS Tryz.f74) = true:=kr
theorem SL:aA env L (n + 1) 74 args h = aK env (aA env L n) L h.length [] ([]) aFY JM (args ++ List.replicate (Tryz.f74.ntmps - args.length) (.d .undef)) h (kFin env.P h.length false Tryz.f74.results.toList) :=
 aV (mode:=0) kr Tryz.func74 kr kr aFw kr kr
noncomputable def EL:SC:=aZ Tryz.f77
noncomputable def TO:Nat → Code:=lpOf Tryz.f77
theorem TR:aP (aS Tryz.f77) = true:=kr
theorem VC:aA env L (n + 1) 77 args h = aK env (aA env L n) L h.length [] ([]) TO EL (args ++ List.replicate (Tryz.f77.ntmps - args.length) (.d .undef)) h (kFin env.P h.length false [.tmp 10,.tmp 11]) :=
 aV (mode:=1) kr Tryz.func77 kr kr TR kr kr
noncomputable def IJ:SC:=aZ Tryz.f81
noncomputable def Y3:Nat → Code:=lpOf Tryz.f81
theorem ZD:aP (aS Tryz.f81) = true:=kr
theorem YG:aA env L (n + 1) 81 args h = aK env (aA env L n) L h.length [] ([]) Y3 IJ (args ++ List.replicate (Tryz.f81.ntmps - args.length) (.d .undef)) h (kFin env.P h.length false [.tmp 2]) :=
 aV (mode:=1) kr Tryz.func81 kr kr ZD kr kr
noncomputable def FI:SC:=aZ Tryz.f82
noncomputable def vE:Nat → Code:=lpOf Tryz.f82
theorem VS:aP (aS Tryz.f82) = true:=kr
theorem JZ:aA env L (n + 1) 82 args h = aK env (aA env L n) L h.length [] Bz29 vE FI (args ++ List.replicate (Tryz.f82.ntmps - args.length) (.d .undef)) h (kFin env.P h.length false [.tmp 6]) :=
 aV (mode:=1) kr Tryz.func82 kr kr VS kr kr
noncomputable def sP:SC:=bD Tryz.f82 0
theorem qR:aM env call L nf thaw live (vE 0) m (n + 1) s h k = aK env call L nf thaw live vE sP s h (bE env call L nf thaw live (vE 0) m n k) :=
 aQ VS kr
noncomputable def LW:SC:=aZ Tryz.f83
noncomputable def mA:Nat → Code:=lpOf Tryz.f83
theorem IU:aP (aS Tryz.f83) = true:=kr
theorem aAl:aA env L (n + 1) 83 args h = aK env (aA env L n) L h.length [] Bz45 mA LW (args ++ List.replicate (Tryz.f83.ntmps - args.length) (.d .undef)) h (kFin env.P h.length false [.tmp 2]) :=
 aV (mode:=2) kr Tryz.func83 kr kr IU kr kr
noncomputable def oX:SC:=bD Tryz.f83 0
theorem qF:aM env call L nf thaw live (mA 0) m (n + 1) s h k = aK env call L nf thaw live mA oX s h (bE env call L nf thaw live (mA 0) m n k) :=
 aQ IU kr
noncomputable def YQ:SC:=aZ Tryz.f84
noncomputable def iL:Nat → Code:=lpOf Tryz.f84
theorem GZ:aP (aS Tryz.f84) = true:=kr
theorem aGk:aA env L (n + 1) 84 args h = aK env (aA env L n) L h.length [] Bz20 iL YQ (args ++ List.replicate (Tryz.f84.ntmps - args.length) (.d .undef)) h (kFin env.P h.length false Tryz.f84.results.toList) :=
 aV (mode:=2) kr Tryz.func84 kr kr GZ kr kr
noncomputable def vH:SC:=bD Tryz.f84 0
theorem vT:aM env call L nf thaw live (iL 0) m (n + 1) s h k = aK env call L nf thaw live iL vH s h (bE env call L nf thaw live (iL 0) m n k) :=
 aQ GZ kr
noncomputable def B9:SC:=bD Tryz.f84 1
theorem FW:aM env call L nf thaw live (iL 1) m (n + 1) s h k = aK env call L nf thaw live iL B9 s h (bE env call L nf thaw live (iL 1) m n k) :=
 aQ GZ kr
noncomputable def rF:SC:=aZ Tryz.f85
noncomputable def XS:Nat → Code:=lpOf Tryz.f85
theorem W5:aP (aS Tryz.f85) = true:=kr
theorem vR:aA env L (n + 1) 85 args h = aK env (aA env L n) L h.length [] ([]) XS rF (args ++ List.replicate (Tryz.f85.ntmps - args.length) (.d .undef)) h (kFin env.P h.length false [.tmp 4,.tmp 5]) :=
 aV (mode:=1) kr Tryz.func85 kr kr W5 kr kr
noncomputable def kL:SC:=aZ Tryz.f86
noncomputable def VI:Nat → Code:=lpOf Tryz.f86
theorem UC:aP (aS Tryz.f86) = true:=kr
theorem m8:aA env L (n + 1) 86 args h = aK env (aA env L n) L h.length [] ([]) VI kL (args ++ List.replicate (Tryz.f86.ntmps - args.length) (.d .undef)) h (kFin env.P h.length false [.tmp 6,.tmp 7]) :=
 aV (mode:=1) kr Tryz.func86 kr kr UC kr kr
noncomputable def NP:SC:=aZ Tryz.f87
noncomputable def uU:Nat → Code:=lpOf Tryz.f87
theorem XP:aP (aS Tryz.f87) = true:=kr
theorem WC:aA env L (n + 1) 87 args h = aK env (aA env L n) L h.length [] Bz13 uU NP (args ++ List.replicate (Tryz.f87.ntmps - args.length) (.d .undef)) h (kFin env.P h.length false [.tmp 4]) :=
 aV (mode:=1) kr Tryz.func87 kr kr XP kr kr
noncomputable def x9:SC:=bD Tryz.f87 0
theorem xT:aM env call L nf thaw live (uU 0) m (n + 1) s h k = aK env call L nf thaw live uU x9 s h (bE env call L nf thaw live (uU 0) m n k) :=
 aQ XP kr
noncomputable def WN:SC:=aZ Tryz.f88
noncomputable def aFS:Nat → Code:=lpOf Tryz.f88
theorem aFs:aP (aS Tryz.f88) = true:=kr
theorem aGd:aA env L (n + 1) 88 args h = aK env (aA env L n) L h.length [] ([]) aFS WN (args ++ List.replicate (Tryz.f88.ntmps - args.length) (.d .undef)) h (kFin env.P h.length false [.tmp 2]) :=
 aV (mode:=1) kr Tryz.func88 kr kr aFs kr kr
noncomputable def N8:SC:=aZ Tryz.f89
noncomputable def nT:Nat → Code:=lpOf Tryz.f89
theorem K7:aP (aS Tryz.f89) = true:=kr
theorem aCO:aA env L (n + 1) 89 args h = aK env (aA env L n) L h.length [] Bz50 nT N8 (args ++ List.replicate (Tryz.f89.ntmps - args.length) (.d .undef)) h (kFin env.P h.length false [.tmp 4]) :=
 aV (mode:=1) kr Tryz.func89 kr kr K7 kr kr
noncomputable def mI:SC:=bD Tryz.f89 0
theorem lL:aM env call L nf thaw live (nT 0) m (n + 1) s h k = aK env call L nf thaw live nT mI s h (bE env call L nf thaw live (nT 0) m n k) :=
 aQ K7 kr
noncomputable def LK:SC:=aZ Tryz.f91
noncomputable def jW:Nat → Code:=lpOf Tryz.f91
theorem HY:aP (aS Tryz.f91) = true:=kr
theorem aAr:aA env L (n + 1) 91 args h = aK env (aA env L n) L h.length [0,0,0,2] Bz26 jW LK (args ++ List.replicate (Tryz.f91.ntmps - args.length) (.d .undef)) h (kFin env.P h.length false [.tmp 2]) :=
 aV (mode:=2) kr Tryz.func91 kr kr HY kr kr
noncomputable def oS:SC:=bD Tryz.f91 0
theorem qA:aM env call L nf thaw live (jW 0) m (n + 1) s h k = aK env call L nf thaw live jW oS s h (bE env call L nf thaw live (jW 0) m n k) :=
 aQ HY kr
noncomputable def H5:SC:=aZ Tryz.f92
noncomputable def ZL:Nat → Code:=lpOf Tryz.f92
theorem XG:aP (aS Tryz.f92) = true:=kr
theorem VZ:aA env L (n + 1) 92 args h = aK env (aA env L n) L h.length [] ([]) ZL H5 (args ++ List.replicate (Tryz.f92.ntmps - args.length) (.d .undef)) h (kFin env.P h.length false [.tmp 2]) :=
 aV (mode:=1) kr Tryz.func92 kr kr XG kr kr
noncomputable def DU:SC:=aZ Tryz.f95
noncomputable def nV:Nat → Code:=lpOf Tryz.f95
theorem LX:aP (aS Tryz.f95) = true:=kr
noncomputable def qT:SC:=bD Tryz.f95 0
noncomputable def lK:SC:=aZ Tryz.f96
noncomputable def PV:Nat → Code:=lpOf Tryz.f96
theorem N7:aP (aS Tryz.f96) = true:=kr
noncomputable def jK:SC:=aZ Tryz.f97
noncomputable def HO:Nat → Code:=lpOf Tryz.f97
theorem IB:aP (aS Tryz.f97) = true:=kr
noncomputable def dD:SC:=aZ Tryz.f101
noncomputable def lO:Nat → Code:=lpOf Tryz.f101
theorem PN:aP (aS Tryz.f101) = true:=kr
theorem cX:aA env L (n + 1) 101 args h = aK env (aA env L n) L h.length (W32 (W32 (W16 (W2 (W1 [1002,0,0,0,0,0,0,0,0,0,0,0,0,0,0,0,0,0,0,0,0,0,1002]))))) Bz19 lO dD (args ++ List.replicate (Tryz.f101.ntmps - args.length) (.d .undef)) h (kFin env.P h.length false Tryz.f101.results.toList) :=
 aV (mode:=0) kr Tryz.func101 kr kr PN kr kr
noncomputable def s8:SC:=bD Tryz.f101 0
theorem tF:aM env call L nf thaw live (lO 0) m (n + 1) s h k = aK env call L nf thaw live lO s8 s h (bE env call L nf thaw live (lO 0) m n k) :=
 aQ PN kr
noncomputable def aA2:SC:=aZ Tryz.f102
noncomputable def qK:Nat → Code:=lpOf Tryz.f102
theorem W0:aP (aS Tryz.f102) = true:=kr
theorem aHe:aA env L (n + 1) 102 args h = aK env (aA env L n) L h.length [] Bz22 qK aA2 (args ++ List.replicate (Tryz.f102.ntmps - args.length) (.d .undef)) h (kFin env.P h.length false Tryz.f102.results.toList) :=
 aV (mode:=0) kr Tryz.func102 kr kr W0 kr kr
noncomputable def yI:SC:=bD Tryz.f102 0
theorem xW:aM env call L nf thaw live (qK 0) m (n + 1) s h k = aK env call L nf thaw live qK yI s h (bE env call L nf thaw live (qK 0) m n k) :=
 aQ W0 kr
noncomputable def NI:SC:=aZ Tryz.f103
noncomputable def d9:Nat → Code:=lpOf Tryz.f103
theorem AC:aP (aS Tryz.f103) = true:=kr
theorem aCK:aA env L (n + 1) 103 args h = aK env (aA env L n) L h.length (W32 (W4 (W1 [1002]))) Bz5 d9 NI (args ++ List.replicate (Tryz.f103.ntmps - args.length) (.d .undef)) h (kFin env.P h.length true Tryz.f103.results.toList) :=
 aV (mode:=0) kr Tryz.func103 kr kr AC kr kr
noncomputable def rB:SC:=bD Tryz.f103 0
theorem rZ:aM env call L nf thaw live (d9 0) m (n + 1) s h k = aK env call L nf thaw live d9 rB s h (bE env call L nf thaw live (d9 0) m n k) :=
 aQ AC kr
noncomputable def mG:SC:=bD Tryz.f103 1
theorem lJ:aM env call L nf thaw live (d9 1) m (n + 1) s h k = aK env call L nf thaw live d9 mG s h (bE env call L nf thaw live (d9 1) m n k) :=
 aQ AC kr
noncomputable def LI:SC:=aZ Tryz.f104
noncomputable def aAp:Nat → Code:=lpOf Tryz.f104
theorem aAv:aP (aS Tryz.f104) = true:=kr
theorem aAB:aA env L (n + 1) 104 args h = aK env (aA env L n) L h.length [] ([]) aAp LI (args ++ List.replicate (Tryz.f104.ntmps - args.length) (.d .undef)) h (kFin env.P h.length false [.tmp 4]) :=
 aV (mode:=0) kr Tryz.func104 kr kr aAv kr kr
noncomputable def LM:SC:=aZ Tryz.f105
noncomputable def aAH:Nat → Code:=lpOf Tryz.f105
theorem aAE:aP (aS Tryz.f105) = true:=kr
theorem aAP:aA env L (n + 1) 105 args h = aK env (aA env L n) L h.length [] ([]) aAH LM (args ++ List.replicate (Tryz.f105.ntmps - args.length) (.d .undef)) h (kFin env.P h.length false [.tmp 4,.tmp 5]) :=
 aV (mode:=1) kr Tryz.func105 kr kr aAE kr kr
noncomputable def rV:SC:=aZ Tryz.f106
noncomputable def NX:Nat → Code:=lpOf Tryz.f106
theorem NQ:aP (aS Tryz.f106) = true:=kr
theorem y4:aA env L (n + 1) 106 args h = aK env (aA env L n) L h.length [] ([]) NX rV (args ++ List.replicate (Tryz.f106.ntmps - args.length) (.d .undef)) h (kFin env.P h.length false [.tmp 3]) :=
 aV (mode:=0) kr Tryz.func106 kr kr NQ kr kr
noncomputable def zL:SC:=aZ Tryz.f109
noncomputable def MP:Nat → Code:=lpOf Tryz.f109
theorem MJ:aP (aS Tryz.f109) = true:=kr
theorem MG:aA env L (n + 1) 109 args h = aK env (aA env L n) L h.length [] ([]) MP zL (args ++ List.replicate (Tryz.f109.ntmps - args.length) (.d .undef)) h (kFin env.P h.length false [.tmp 4]) :=
 aV (mode:=0) kr Tryz.func109 kr kr MJ kr kr
noncomputable def iH:SC:=aZ Tryz.f110
noncomputable def dN:Nat → Code:=lpOf Tryz.f110
theorem lH:aP (aS Tryz.f110) = true:=kr
theorem lG:aA env L (n + 1) 110 args h = aK env (aA env L n) L h.length [] Bz46 dN iH (args ++ List.replicate (Tryz.f110.ntmps - args.length) (.d .undef)) h (kFin env.P h.length false [.tmp 4]) :=
 aV (mode:=1) kr Tryz.func110 kr kr lH kr kr
noncomputable def eC:SC:=bD Tryz.f110 0
theorem fI:aM env call L nf thaw live (dN 0) m (n + 1) s h k = aK env call L nf thaw live dN eC s h (bE env call L nf thaw live (dN 0) m n k) :=
 aQ lH kr
noncomputable def J6:SC:=aZ Tryz.f111
noncomputable def jP:Nat → Code:=lpOf Tryz.f111
theorem RS:aP (aS Tryz.f111) = true:=kr
theorem S3:aA env L (n + 1) 111 args h = aK env (aA env L n) L h.length (W16 (W8 (W4 [1002]))) Bz12 jP J6 (args ++ List.replicate (Tryz.f111.ntmps - args.length) (.d .undef)) h (kFin env.P h.length true Tryz.f111.results.toList) :=
 aV (mode:=2) kr Tryz.func111 kr kr RS kr kr
noncomputable def pC:SC:=bD Tryz.f111 0
theorem o8:aM env call L nf thaw live (jP 0) m (n + 1) s h k = aK env call L nf thaw live jP pC s h (bE env call L nf thaw live (jP 0) m n k) :=
 aQ RS kr
noncomputable def O3:SC:=aZ Tryz.f113
noncomputable def aCY:Nat → Code:=lpOf Tryz.f113
theorem aCG:aP (aS Tryz.f113) = true:=kr
theorem aCE:aA env L (n + 1) 113 args h = aK env (aA env L n) L h.length [] ([]) aCY O3 (args ++ List.replicate (Tryz.f113.ntmps - args.length) (.d .undef)) h (kFin env.P h.length false [.tmp 4]) :=
 aV (mode:=0) kr Tryz.func113 kr kr aCG kr kr
noncomputable def JX:SC:=aZ Tryz.f115
noncomputable def aF4:Nat → Code:=lpOf Tryz.f115
theorem aF3:aP (aS Tryz.f115) = true:=kr
theorem RV:aA env L (n + 1) 115 args h = aK env (aA env L n) L h.length [] ([]) aF4 JX (args ++ List.replicate (Tryz.f115.ntmps - args.length) (.d .undef)) h (kFin env.P h.length false Tryz.f115.results.toList) :=
 aV (mode:=0) kr Tryz.func115 kr kr aF3 kr kr
noncomputable def S0:SC:=aZ Tryz.f117
noncomputable def dV:Nat → Code:=lpOf Tryz.f117
theorem uP:aP (aS Tryz.f117) = true:=kr
theorem aDI:aA env L (n + 1) 117 args h = aK env (aA env L n) L h.length [] Bz3 dV S0 (args ++ List.replicate (Tryz.f117.ntmps - args.length) (.d .undef)) h (kFin env.P h.length false [.tmp 2]) :=
 aV (mode:=2) kr Tryz.func117 kr kr uP kr kr
noncomputable def zV:SC:=bD Tryz.f117 0
theorem CU:aM env call L nf thaw live (dV 0) m (n + 1) s h k = aK env call L nf thaw live dV zV s h (bE env call L nf thaw live (dV 0) m n k) :=
 aQ uP kr
noncomputable def AG:SC:=bD Tryz.f117 1
theorem DT:aM env call L nf thaw live (dV 1) m (n + 1) s h k = aK env call L nf thaw live dV AG s h (bE env call L nf thaw live (dV 1) m n k) :=
 aQ uP kr
noncomputable def AK:SC:=bD Tryz.f117 2
theorem CA:aM env call L nf thaw live (dV 2) m (n + 1) s h k = aK env call L nf thaw live dV AK s h (bE env call L nf thaw live (dV 2) m n k) :=
 aQ uP kr
noncomputable def yS:SC:=aZ Tryz.f118
noncomputable def L7:Nat → Code:=lpOf Tryz.f118
theorem ML:aP (aS Tryz.f118) = true:=kr
theorem MH:aA env L (n + 1) 118 args h = aK env (aA env L n) L h.length [] ([]) L7 yS (args ++ List.replicate (Tryz.f118.ntmps - args.length) (.d .undef)) h (kFin env.P h.length false [.tmp 9]) :=
 aV (mode:=0) kr Tryz.func118 kr kr ML kr kr
noncomputable def sX:SC:=aZ Tryz.f119
noncomputable def cW:Nat → Code:=lpOf Tryz.f119
theorem rH:aP (aS Tryz.f119) = true:=kr
theorem x6:aA env L (n + 1) 119 args h = aK env (aA env L n) L h.length (W16 (W2 [2])) Bz2 cW sX (args ++ List.replicate (Tryz.f119.ntmps - args.length) (.d .undef)) h (kFin env.P h.length false [.tmp 10,.tmp 11]) :=
 aV (mode:=1) kr Tryz.func119 kr kr rH kr kr
noncomputable def kN:SC:=bD Tryz.f119 0
theorem kP:aM env call L nf thaw live (cW 0) m (n + 1) s h k = aK env call L nf thaw live cW kN s h (bE env call L nf thaw live (cW 0) m n k) :=
 aQ rH kr
noncomputable def oO:SC:=bD Tryz.f119 1
theorem pN:aM env call L nf thaw live (cW 1) m (n + 1) s h k = aK env call L nf thaw live cW oO s h (bE env call L nf thaw live (cW 1) m n k) :=
 aQ rH kr
noncomputable def vI:SC:=bD Tryz.f119 2
theorem yO:aM env call L nf thaw live (cW 2) m (n + 1) s h k = aK env call L nf thaw live cW vI s h (bE env call L nf thaw live (cW 2) m n k) :=
 aQ rH kr
noncomputable def zT:SC:=aZ Tryz.f120
noncomputable def MC:Nat → Code:=lpOf Tryz.f120
theorem MN:aP (aS Tryz.f120) = true:=kr
theorem ME:aA env L (n + 1) 120 args h = aK env (aA env L n) L h.length [] ([]) MC zT (args ++ List.replicate (Tryz.f120.ntmps - args.length) (.d .undef)) h (kFin env.P h.length false [.tmp 6]) :=
 aV (mode:=0) kr Tryz.func120 kr kr MN kr kr
noncomputable def aCh:SC:=aZ Tryz.f123
noncomputable def aH2:Nat → Code:=lpOf Tryz.f123
theorem aHU:aP (aS Tryz.f123) = true:=kr
theorem aH8:aA env L (n + 1) 123 args h = aK env (aA env L n) L h.length [] ([]) aH2 aCh (args ++ List.replicate (Tryz.f123.ntmps - args.length) (.d .undef)) h (kFin env.P h.length false [.tmp 4]) :=
 aV (mode:=1) kr Tryz.func123 kr kr aHU kr kr
noncomputable def R6:SC:=aZ Tryz.f124
noncomputable def fJ:Nat → Code:=lpOf Tryz.f124
theorem D1:aP (aS Tryz.f124) = true:=kr
theorem aDl:aA env L (n + 1) 124 args h = aK env (aA env L n) L h.length [] Bz28 fJ R6 (args ++ List.replicate (Tryz.f124.ntmps - args.length) (.d .undef)) h (kFin env.P h.length false [.tmp 2]) :=
 aV (mode:=2) kr Tryz.func124 kr kr D1 kr kr
noncomputable def zX:SC:=bD Tryz.f124 0
theorem DF:aM env call L nf thaw live (fJ 0) m (n + 1) s h k = aK env call L nf thaw live fJ zX s h (bE env call L nf thaw live (fJ 0) m n k) :=
 aQ D1 kr
noncomputable def s9:SC:=bD Tryz.f124 1
theorem tO:aM env call L nf thaw live (fJ 1) m (n + 1) s h k = aK env call L nf thaw live fJ s9 s h (bE env call L nf thaw live (fJ 1) m n k) :=
 aQ D1 kr
noncomputable def SW:SC:=aZ Tryz.f125
noncomputable def qB:Nat → Code:=lpOf Tryz.f125
theorem MS:aP (aS Tryz.f125) = true:=kr
theorem aFf:aA env L (n + 1) 125 args h = aK env (aA env L n) L h.length [] Bz57 qB SW (args ++ List.replicate (Tryz.f125.ntmps - args.length) (.d .undef)) h (kFin env.P h.length false [.tmp 4]) :=
 aV (mode:=1) kr Tryz.func125 kr kr MS kr kr
noncomputable def AM:SC:=bD Tryz.f125 0
theorem C5:aM env call L nf thaw live (qB 0) m (n + 1) s h k = aK env call L nf thaw live qB AM s h (bE env call L nf thaw live (qB 0) m n k) :=
 aQ MS kr
noncomputable def yD:SC:=aZ Tryz.f126
noncomputable def aDE:Nat → Code:=lpOf Tryz.f126
theorem aDd:aP (aS Tryz.f126) = true:=kr
theorem B7:aA env L (n + 1) 126 args h = aK env (aA env L n) L h.length [] ([]) aDE yD (args ++ List.replicate (Tryz.f126.ntmps - args.length) (.d .undef)) h (kFin env.P h.length false [.tmp 4]) :=
 aV (mode:=1) kr Tryz.func126 kr kr aDd kr kr
noncomputable def yE:SC:=aZ Tryz.f127
noncomputable def b7:Nat → Code:=lpOf Tryz.f127
theorem pW:aP (aS Tryz.f127) = true:=kr
theorem DJ:aA env L (n + 1) 127 args h = aK env (aA env L n) L h.length [] Bz0 b7 yE (args ++ List.replicate (Tryz.f127.ntmps - args.length) (.d .undef)) h (kFin env.P h.length false [.tmp 2,.tmp 3]) :=
 aV (mode:=1) kr Tryz.func127 kr kr pW kr kr
noncomputable def zW:SC:=bD Tryz.f127 0
theorem DC:aM env call L nf thaw live (b7 0) m (n + 1) s h k = aK env call L nf thaw live b7 zW s h (bE env call L nf thaw live (b7 0) m n k) :=
 aQ pW kr
noncomputable def s6:SC:=bD Tryz.f127 1
theorem tL:aM env call L nf thaw live (b7 1) m (n + 1) s h k = aK env call L nf thaw live b7 s6 s h (bE env call L nf thaw live (b7 1) m n k) :=
 aQ pW kr
noncomputable def nR:SC:=bD Tryz.f127 2
theorem nA:aM env call L nf thaw live (b7 2) m (n + 1) s h k = aK env call L nf thaw live b7 nR s h (bE env call L nf thaw live (b7 2) m n k) :=
 aQ pW kr
noncomputable def nO:SC:=bD Tryz.f127 3
theorem mY:aM env call L nf thaw live (b7 3) m (n + 1) s h k = aK env call L nf thaw live b7 nO s h (bE env call L nf thaw live (b7 3) m n k) :=
 aQ pW kr
noncomputable def qV:SC:=aZ Tryz.f128
noncomputable def WE:Nat → Code:=lpOf Tryz.f128
theorem WA:aP (aS Tryz.f128) = true:=kr
theorem uO:aA env L (n + 1) 128 args h = aK env (aA env L n) L h.length [] ([]) WE qV (args ++ List.replicate (Tryz.f128.ntmps - args.length) (.d .undef)) h (kFin env.P h.length false [.tmp 4]) :=
 aV (mode:=1) kr Tryz.func128 kr kr WA kr kr
noncomputable def E9:SC:=aZ Tryz.f130
noncomputable def U3:Nat → Code:=lpOf Tryz.f130
theorem VJ:aP (aS Tryz.f130) = true:=kr
noncomputable def zC:SC:=aZ Tryz.f131
noncomputable def MI:Nat → Code:=lpOf Tryz.f131
theorem MA:aP (aS Tryz.f131) = true:=kr
noncomputable def DM:SC:=aZ Tryz.f134
noncomputable def Q9:Nat → Code:=lpOf Tryz.f134
theorem RG:aP (aS Tryz.f134) = true:=kr
theorem Q1:aA env L (n + 1) 134 args h = aK env (aA env L n) L h.length [] ([]) Q9 DM (args ++ List.replicate (Tryz.f134.ntmps - args.length) (.d .undef)) h (kFin env.P h.length false [.tmp 7]) :=
 aV (mode:=0) kr Tryz.func134 kr kr RG kr kr
noncomputable def YA:SC:=aZ Tryz.f149
noncomputable def f9:Nat → Code:=lpOf Tryz.f149
theorem GM:aP (aS Tryz.f149) = true:=kr
theorem aFW:aA env L (n + 1) 149 args h = aK env (aA env L n) L h.length [] Bz9 f9 YA (args ++ List.replicate (Tryz.f149.ntmps - args.length) (.d .undef)) h (kFin env.P h.length false Tryz.f149.results.toList) :=
 aV (mode:=0) kr Tryz.func149 kr kr GM kr kr
noncomputable def DK:SC:=bD Tryz.f149 0
theorem E7:aM env call L nf thaw live (f9 0) m (n + 1) s h k = aK env call L nf thaw live f9 DK s h (bE env call L nf thaw live (f9 0) m n k) :=
 aQ GM kr
noncomputable def CH:SC:=bD Tryz.f149 1
theorem ET:aM env call L nf thaw live (f9 1) m (n + 1) s h k = aK env call L nf thaw live f9 CH s h (bE env call L nf thaw live (f9 1) m n k) :=
 aQ GM kr
noncomputable def m4:SC:=aZ Tryz.f151
noncomputable def gZ:Nat → Code:=lpOf Tryz.f151
theorem AP:aP (aS Tryz.f151) = true:=kr
theorem rU:aA env L (n + 1) 151 args h = aK env (aA env L n) L h.length (W8 (W2 [2])) Bz8 gZ m4 (args ++ List.replicate (Tryz.f151.ntmps - args.length) (.d .undef)) h (kFin env.P h.length false [.tmp 9]) :=
 aV (mode:=0) kr Tryz.func151 kr kr AP kr kr
noncomputable def cI:SC:=bD Tryz.f151 0
theorem cE:aM env call L nf thaw live (gZ 0) m (n + 1) s h k = aK env call L nf thaw live gZ cI s h (bE env call L nf thaw live (gZ 0) m n k) :=
 aQ AP kr
noncomputable def O7:SC:=aZ Tryz.f152
noncomputable def nY:Nat → Code:=lpOf Tryz.f152
theorem K9:aP (aS Tryz.f152) = true:=kr
theorem aCR:aA env L (n + 1) 152 args h = aK env (aA env L n) L h.length [0,0,0,2] Bz37 nY O7 (args ++ List.replicate (Tryz.f152.ntmps - args.length) (.d .undef)) h (kFin env.P h.length false [.tmp 2]) :=
 aV (mode:=1) kr Tryz.func152 kr kr K9 kr kr
noncomputable def xG:SC:=bD Tryz.f152 0
theorem AQ:aM env call L nf thaw live (nY 0) m (n + 1) s h k = aK env call L nf thaw live nY xG s h (bE env call L nf thaw live (nY 0) m n k) :=
 aQ K9 kr
noncomputable def UH:SC:=aZ Tryz.f153
noncomputable def yQ:Nat → Code:=lpOf Tryz.f153
theorem aCg:aP (aS Tryz.f153) = true:=kr
theorem aBz:aA env L (n + 1) 153 args h = aK env (aA env L n) L h.length [] Bz13 yQ UH (args ++ List.replicate (Tryz.f153.ntmps - args.length) (.d .undef)) h (kFin env.P h.length false [.tmp 4]) :=
 aV (mode:=1) kr Tryz.func153 kr kr aCg kr kr
noncomputable def A5:SC:=bD Tryz.f153 0
theorem zZ:aM env call L nf thaw live (yQ 0) m (n + 1) s h k = aK env call L nf thaw live yQ A5 s h (bE env call L nf thaw live (yQ 0) m n k) :=
 aQ aCg kr
noncomputable def RL:SC:=aZ Tryz.f154
noncomputable def gF:Nat → Code:=lpOf Tryz.f154
theorem C8:aP (aS Tryz.f154) = true:=kr
theorem aDs:aA env L (n + 1) 154 args h = aK env (aA env L n) L h.length [] Bz33 gF RL (args ++ List.replicate (Tryz.f154.ntmps - args.length) (.d .undef)) h (kFin env.P h.length false [.tmp 2]) :=
 aV (mode:=2) kr Tryz.func154 kr kr C8 kr kr
noncomputable def AA:SC:=bD Tryz.f154 0
theorem CQ:aM env call L nf thaw live (gF 0) m (n + 1) s h k = aK env call L nf thaw live gF AA s h (bE env call L nf thaw live (gF 0) m n k) :=
 aQ C8 kr
noncomputable def AO:SC:=bD Tryz.f154 1
theorem C6:aM env call L nf thaw live (gF 1) m (n + 1) s h k = aK env call L nf thaw live gF AO s h (bE env call L nf thaw live (gF 1) m n k) :=
 aQ C8 kr
noncomputable def RN:SC:=aZ Tryz.f155
noncomputable def gT:Nat → Code:=lpOf Tryz.f155
theorem CW:aP (aS Tryz.f155) = true:=kr
theorem aEt:aA env L (n + 1) 155 args h = aK env (aA env L n) L h.length [] Bz16 gT RN (args ++ List.replicate (Tryz.f155.ntmps - args.length) (.d .undef)) h (kFin env.P h.length false [.tmp 6]) :=
 aV (mode:=2) kr Tryz.func155 kr kr CW kr kr
noncomputable def AN:SC:=bD Tryz.f155 0
theorem B6:aM env call L nf thaw live (gT 0) m (n + 1) s h k = aK env call L nf thaw live gT AN s h (bE env call L nf thaw live (gT 0) m n k) :=
 aQ CW kr
noncomputable def AD:SC:=bD Tryz.f155 1
theorem DZ:aM env call L nf thaw live (gT 1) m (n + 1) s h k = aK env call L nf thaw live gT AD s h (bE env call L nf thaw live (gT 1) m n k) :=
 aQ CW kr
noncomputable def kY:SC:=aZ Tryz.f156
noncomputable def aEe:Nat → Code:=lpOf Tryz.f156
theorem aDU:aP (aS Tryz.f156) = true:=kr
theorem lS:aA env L (n + 1) 156 args h = aK env (aA env L n) L h.length [] (Z2 (U1 (Z2 (Z1 (U2 (Z32 (Z16 (Z8 ([]))))))))) aEe kY (args ++ List.replicate (Tryz.f156.ntmps - args.length) (.d .undef)) h (kFin env.P h.length false [.tmp 6]) :=
 aV (mode:=1) kr Tryz.func156 kr kr aDU kr kr
noncomputable def OD:SC:=aZ Tryz.f157
noncomputable def nU:Nat → Code:=lpOf Tryz.f157
theorem L3:aP (aS Tryz.f157) = true:=kr
theorem aCH:aA env L (n + 1) 157 args h = aK env (aA env L n) L h.length [] Bz43 nU OD (args ++ List.replicate (Tryz.f157.ntmps - args.length) (.d .undef)) h (kFin env.P h.length false [.tmp 4]) :=
 aV (mode:=2) kr Tryz.func157 kr kr L3 kr kr
noncomputable def xE:SC:=bD Tryz.f157 0
theorem AW:aM env call L nf thaw live (nU 0) m (n + 1) s h k = aK env call L nf thaw live nU xE s h (bE env call L nf thaw live (nU 0) m n k) :=
 aQ L3 kr
noncomputable def XU:SC:=aZ Tryz.f158
noncomputable def gA:Nat → Code:=lpOf Tryz.f158
theorem GQ:aP (aS Tryz.f158) = true:=kr
theorem aFD:aA env L (n + 1) 158 args h = aK env (aA env L n) L h.length [] Bz18 gA XU (args ++ List.replicate (Tryz.f158.ntmps - args.length) (.d .undef)) h (kFin env.P h.length false []) :=
 aV (mode:=0) kr Tryz.func158 kr kr GQ kr kr
noncomputable def vC:SC:=bD Tryz.f158 0
theorem uT:aM env call L nf thaw live (gA 0) m (n + 1) s h k = aK env call L nf thaw live gA vC s h (bE env call L nf thaw live (gA 0) m n k) :=
 aQ GQ kr
noncomputable def qE:SC:=bD Tryz.f158 1
theorem oM:aM env call L nf thaw live (gA 1) m (n + 1) s h k = aK env call L nf thaw live gA qE s h (bE env call L nf thaw live (gA 1) m n k) :=
 aQ GQ kr
noncomputable def PR:SC:=aZ Tryz.f159
noncomputable def nX:Nat → Code:=lpOf Tryz.f159
theorem K0:aP (aS Tryz.f159) = true:=kr
theorem aCy:aA env L (n + 1) 159 args h = aK env (aA env L n) L h.length [] Bz51 nX PR (args ++ List.replicate (Tryz.f159.ntmps - args.length) (.d .undef)) h (kFin env.P h.length false [.tmp 4]) :=
 aV (mode:=1) kr Tryz.func159 kr kr K0 kr kr
noncomputable def x2:SC:=bD Tryz.f159 0
theorem AS:aM env call L nf thaw live (nX 0) m (n + 1) s h k = aK env call L nf thaw live nX x2 s h (bE env call L nf thaw live (nX 0) m n k) :=
 aQ K0 kr
noncomputable def P2:SC:=aZ Tryz.f160
noncomputable def fL:Nat → Code:=lpOf Tryz.f160
theorem zY:aP (aS Tryz.f160) = true:=kr
theorem aCA:aA env L (n + 1) 160 args h = aK env (aA env L n) L h.length [] Bz21 fL P2 (args ++ List.replicate (Tryz.f160.ntmps - args.length) (.d .undef)) h (kFin env.P h.length false [.tmp 10]) :=
 aV (mode:=2) kr Tryz.func160 kr kr zY kr kr
noncomputable def wZ:SC:=bD Tryz.f160 0
theorem AV:aM env call L nf thaw live (fL 0) m (n + 1) s h k = aK env call L nf thaw live fL wZ s h (bE env call L nf thaw live (fL 0) m n k) :=
 aQ zY kr
noncomputable def lY:SC:=bD Tryz.f160 1
theorem lM:aM env call L nf thaw live (fL 1) m (n + 1) s h k = aK env call L nf thaw live fL lY s h (bE env call L nf thaw live (fL 1) m n k) :=
 aQ zY kr
noncomputable def sT:SC:=aZ Tryz.f161
noncomputable def mC:Nat → Code:=lpOf Tryz.f161
theorem HN:aP (aS Tryz.f161) = true:=kr
theorem xJ:aA env L (n + 1) 161 args h = aK env (aA env L n) L h.length [] Bz52 mC sT (args ++ List.replicate (Tryz.f161.ntmps - args.length) (.d .undef)) h (kFin env.P h.length false [.tmp 2]) :=
 aV (mode:=1) kr Tryz.func161 kr kr HN kr kr
noncomputable def kT:SC:=bD Tryz.f161 0
theorem kR:aM env call L nf thaw live (mC 0) m (n + 1) s h k = aK env call L nf thaw live mC kT s h (bE env call L nf thaw live (mC 0) m n k) :=
 aQ HN kr
noncomputable def VH:SC:=aZ Tryz.f163
noncomputable def aJv:Nat → Code:=lpOf Tryz.f163
theorem aJp:aP (aS Tryz.f163) = true:=kr
theorem aBs:aA env L (n + 1) 163 args h = aK env (aA env L n) L h.length [] ([]) aJv VH (args ++ List.replicate (Tryz.f163.ntmps - args.length) (.d .undef)) h (kFin env.P h.length false [.tmp 6]) :=
 aV (mode:=1) kr Tryz.func163 kr kr aJp kr kr
noncomputable def aE1:SC:=aZ Tryz.f164
noncomputable def aJZ:Nat → Code:=lpOf Tryz.f164
theorem aJq:aP (aS Tryz.f164) = true:=kr
theorem aJh:aA env L (n + 1) 164 args h = aK env (aA env L n) L h.length [] ([]) aJZ aE1 (args ++ List.replicate (Tryz.f164.ntmps - args.length) (.d .undef)) h (kFin env.P h.length false [.tmp 4]) :=
 aV (mode:=1) kr Tryz.func164 kr kr aJq kr kr
noncomputable def nS:SC:=aZ Tryz.f174
noncomputable def dC:Nat → Code:=lpOf Tryz.f174
theorem mP:aP (aS Tryz.f174) = true:=kr
theorem zO:aA env L (n + 1) 174 args h = aK env (aA env L n) L h.length [] Bz38 dC nS (args ++ List.replicate (Tryz.f174.ntmps - args.length) (.d .undef)) h (kFin env.P h.length false []) :=
 aV (mode:=0) kr Tryz.func174 kr kr mP kr kr
noncomputable def eQ:SC:=bD Tryz.f174 0
theorem f5:aM env call L nf thaw live (dC 0) m (n + 1) s h k = aK env call L nf thaw live dC eQ s h (bE env call L nf thaw live (dC 0) m n k) :=
 aQ mP kr
noncomputable def SR:SC:=aZ Tryz.f175
noncomputable def dT:Nat → Code:=lpOf Tryz.f175
theorem uY:aP (aS Tryz.f175) = true:=kr
theorem aDf:aA env L (n + 1) 175 args h = aK env (aA env L n) L h.length [] Bz6 dT SR (args ++ List.replicate (Tryz.f175.ntmps - args.length) (.d .undef)) h (kFin env.P h.length false [.tmp 8]) :=
 aV (mode:=2) kr Tryz.func175 kr kr uY kr kr
noncomputable def AJ:SC:=bD Tryz.f175 0
theorem CB:aM env call L nf thaw live (dT 0) m (n + 1) s h k = aK env call L nf thaw live dT AJ s h (bE env call L nf thaw live (dT 0) m n k) :=
 aQ uY kr
noncomputable def AF:SC:=bD Tryz.f175 1
theorem DB:aM env call L nf thaw live (dT 1) m (n + 1) s h k = aK env call L nf thaw live dT AF s h (bE env call L nf thaw live (dT 1) m n k) :=
 aQ uY kr
noncomputable def AE:SC:=bD Tryz.f175 2
theorem EA:aM env call L nf thaw live (dT 2) m (n + 1) s h k = aK env call L nf thaw live dT AE s h (bE env call L nf thaw live (dT 2) m n k) :=
 aQ uY kr
noncomputable def aFi:SC:=aZ Tryz.f176
noncomputable def aJ2:Nat → Code:=lpOf Tryz.f176
theorem aKg:aP (aS Tryz.f176) = true:=kr
theorem aKd:aA env L (n + 1) 176 args h = aK env (aA env L n) L h.length [] ([]) aJ2 aFi (args ++ List.replicate (Tryz.f176.ntmps - args.length) (.d .undef)) h (kFin env.P h.length false [.tmp 6]) :=
 aV (mode:=1) kr Tryz.func176 kr kr aKg kr kr
noncomputable def IZ:SC:=aZ Tryz.f177
noncomputable def iK:Nat → Code:=lpOf Tryz.f177
theorem GK:aP (aS Tryz.f177) = true:=kr
theorem R0:aA env L (n + 1) 177 args h = aK env (aA env L n) L h.length [] Bz17 iK IZ (args ++ List.replicate (Tryz.f177.ntmps - args.length) (.d .undef)) h (kFin env.P h.length false [.tmp 6]) :=
 aV (mode:=1) kr Tryz.func177 kr kr GK kr kr
noncomputable def vO:SC:=bD Tryz.f177 0
theorem vK:aM env call L nf thaw live (iK 0) m (n + 1) s h k = aK env call L nf thaw live iK vO s h (bE env call L nf thaw live (iK 0) m n k) :=
 aQ GK kr
noncomputable def vQ:SC:=bD Tryz.f177 1
theorem u7:aM env call L nf thaw live (iK 1) m (n + 1) s h k = aK env call L nf thaw live iK vQ s h (bE env call L nf thaw live (iK 1) m n k) :=
 aQ GK kr
noncomputable def SU:SC:=aZ Tryz.f179
noncomputable def pO:Nat → Code:=lpOf Tryz.f179
theorem MR:aP (aS Tryz.f179) = true:=kr
theorem aDh:aA env L (n + 1) 179 args h = aK env (aA env L n) L h.length [] Bz47 pO SU (args ++ List.replicate (Tryz.f179.ntmps - args.length) (.d .undef)) h (kFin env.P h.length false [.tmp 4]) :=
 aV (mode:=1) kr Tryz.func179 kr kr MR kr kr
noncomputable def s5:SC:=bD Tryz.f179 0
theorem tQ:aM env call L nf thaw live (pO 0) m (n + 1) s h k = aK env call L nf thaw live pO s5 s h (bE env call L nf thaw live (pO 0) m n k) :=
 aQ MR kr
noncomputable def KY:SC:=aZ Tryz.f182
noncomputable def ZS:Nat → Code:=lpOf Tryz.f182
theorem aAF:aP (aS Tryz.f182) = true:=kr
theorem Z5:aA env L (n + 1) 182 args h = aK env (aA env L n) L h.length [] (Z2 (U2 (Z4 (U4 (Z32 (Z32 (Z2 (Z1 ([]))))))))) ZS KY (args ++ List.replicate (Tryz.f182.ntmps - args.length) (.d .undef)) h (kFin env.P h.length false [.tmp 8]) :=
 aV (mode:=2) kr Tryz.func182 kr kr aAF kr kr
end
end Ev
end Go.Proofs.YtejmccgfigiadaaGreat
