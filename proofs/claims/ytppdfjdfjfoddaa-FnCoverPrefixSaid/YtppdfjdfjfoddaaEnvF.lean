/-
  Each function's code as an equation. Written by a program.
-/
import Derived.Test.YtppdfjdfjfoddaaEnv
set_option maxRecDepth 100000
namespace Go.Proofs.Ytppdfjdfjfoddaa
namespace Ev
section
variable {R : Type} {call : aY} {L nf n : Nat} {thaw : List Nat} {live m : List Bool} {s args : List A} {h : H} {k : Exit → List A → H → Option R}
noncomputable def tG : SC := bN Try.f7
noncomputable def mG : Nat → Code := lpOf Try.f7
theorem IL : aP (a6 Try.f7) = true := by kernel_rfl
theorem yN : aA env L (n + 1) 7 args h = aN env (aA env L n) L h.length [] (Z2 (U1 (Z1 (U2 (Z32 (Z8 (Z1 ([])))))))) mG tG (args ++ List.replicate (Try.f7.ntmps - args.length) (.d .undef)) h (kFin env.P h.length false [.tmp 2]) :=
 a8 (mode := 1) (by kernel_rfl) Try.func7 (by kernel_rfl) (by kernel_rfl) IL (by kernel_rfl) (by kernel_rfl)
noncomputable def qD : SC := cO Try.f7 0
theorem rZ : aO env call L nf thaw live (mG 0) m (n + 1) s h k = aN env call L nf thaw live mG qD s h (cJ env call L nf thaw live (mG 0) m n k) :=
 aS IL (by kernel_rfl)
noncomputable def iO : SC := bN Try.f15
noncomputable def eK : Nat → Code := lpOf Try.f15
theorem s8 : aP (a6 Try.f15) = true := by kernel_rfl
theorem jN : aA env L (n + 1) 15 args h = aN env (aA env L n) L h.length [] (Z1 (U2 (U1 (Z32 (Z2 (U2 (U1 (Z4 (Z2 (Z1 (U2 (U1 (Z8 (Z4 (Z2 ([])))))))))))))))) eK iO (args ++ List.replicate (Try.f15.ntmps - args.length) (.d .undef)) h (kFin env.P h.length false [.tmp 2]) :=
 a8 (mode := 1) (by kernel_rfl) Try.func15 (by kernel_rfl) (by kernel_rfl) s8 (by kernel_rfl) (by kernel_rfl)
noncomputable def kR : SC := cO Try.f15 0
theorem lS : aO env call L nf thaw live (eK 0) m (n + 1) s h k = aN env call L nf thaw live eK kR s h (cJ env call L nf thaw live (eK 0) m n k) :=
 aS s8 (by kernel_rfl)
noncomputable def kV : SC := cO Try.f15 1
theorem lT : aO env call L nf thaw live (eK 1) m (n + 1) s h k = aN env call L nf thaw live eK kV s h (cJ env call L nf thaw live (eK 1) m n k) :=
 aS s8 (by kernel_rfl)
noncomputable def X2 : SC := bN Try.f26
noncomputable def uD : Nat → Code := lpOf Try.f26
theorem UE : aP (a6 Try.f26) = true := by kernel_rfl
theorem aHK : aA env L (n + 1) 26 args h = aN env (aA env L n) L h.length [] (U2 (Z2 (U2 (Z16 (Z4 ([])))))) uD X2 (args ++ List.replicate (Try.f26.ntmps - args.length) (.d .undef)) h (kFin env.P h.length false [.tmp 4]) :=
 a8 (mode := 1) (by kernel_rfl) Try.func26 (by kernel_rfl) (by kernel_rfl) UE (by kernel_rfl) (by kernel_rfl)
noncomputable def FT : SC := cO Try.f26 0
theorem II : aO env call L nf thaw live (uD 0) m (n + 1) s h k = aN env call L nf thaw live uD FT s h (cJ env call L nf thaw live (uD 0) m n k) :=
 aS UE (by kernel_rfl)
noncomputable def NH : SC := bN Try.f27
noncomputable def uO : Nat → Code := lpOf Try.f27
theorem VX : aP (a6 Try.f27) = true := by kernel_rfl
theorem U3 : aA env L (n + 1) 27 args h = aN env (aA env L n) L h.length [] (U2 (Z2 (U2 (Z8 (Z4 ([])))))) uO NH (args ++ List.replicate (Try.f27.ntmps - args.length) (.d .undef)) h (kFin env.P h.length false [.tmp 4]) :=
 a8 (mode := 1) (by kernel_rfl) Try.func27 (by kernel_rfl) (by kernel_rfl) VX (by kernel_rfl) (by kernel_rfl)
noncomputable def xS : SC := cO Try.f27 0
theorem yL : aO env call L nf thaw live (uO 0) m (n + 1) s h k = aN env call L nf thaw live uO xS s h (cJ env call L nf thaw live (uO 0) m n k) :=
 aS VX (by kernel_rfl)
noncomputable def C6 : SC := bN Try.f29
noncomputable def pM : Nat → Code := lpOf Try.f29
theorem LF : aP (a6 Try.f29) = true := by kernel_rfl
theorem MQ : aA env L (n + 1) 29 args h = aN env (aA env L n) L h.length [] (Z2 (U4 (Z16 (Z8 (Z2 ([])))))) pM C6 (args ++ List.replicate (Try.f29.ntmps - args.length) (.d .undef)) h (kFin env.P h.length false [.tmp 2]) :=
 a8 (mode := 2) (by kernel_rfl) Try.func29 (by kernel_rfl) (by kernel_rfl) LF (by kernel_rfl) (by kernel_rfl)
noncomputable def yB : SC := cO Try.f29 0
theorem B9 : aO env call L nf thaw live (pM 0) m (n + 1) s h k = aN env call L nf thaw live pM yB s h (cJ env call L nf thaw live (pM 0) m n k) :=
 aS LF (by kernel_rfl)
noncomputable def DQ : SC := bN Try.f30
noncomputable def pG : Nat → Code := lpOf Try.f30
theorem MA : aP (a6 Try.f30) = true := by kernel_rfl
theorem K6 : aA env L (n + 1) 30 args h = aN env (aA env L n) L h.length [0,0,0,2] (Z1 (U2 (U1 (Z8 (U2 (Z16 (Z1 ([])))))))) pG DQ (args ++ List.replicate (Try.f30.ntmps - args.length) (.d .undef)) h (kFin env.P h.length true [.tmp 2]) :=
 a8 (mode := 3) (by kernel_rfl) Try.func30 (by kernel_rfl) (by kernel_rfl) MA (by kernel_rfl) (by kernel_rfl)
noncomputable def rR : SC := cO Try.f30 0
theorem s7 : aO env call L nf thaw live (pG 0) m (n + 1) s h k = aN env call L nf thaw live pG rR s h (cJ env call L nf thaw live (pG 0) m n k) :=
 aS MA (by kernel_rfl)
noncomputable def E4 : SC := bN Try.f31
noncomputable def SV : Nat → Code := lpOf Try.f31
theorem ST : aP (a6 Try.f31) = true := by kernel_rfl
theorem SW : aA env L (n + 1) 31 args h = aN env (aA env L n) L h.length [] ([]) SV E4 (args ++ List.replicate (Try.f31.ntmps - args.length) (.d .undef)) h (kFin env.P h.length false Try.f31.results.toList) :=
 a8 (mode := 2) (by kernel_rfl) Try.func31 (by kernel_rfl) (by kernel_rfl) ST (by kernel_rfl) (by kernel_rfl)
noncomputable def NF : SC := bN Try.f32
noncomputable def aGo : Nat → Code := lpOf Try.f32
theorem aGN : aP (a6 Try.f32) = true := by kernel_rfl
theorem UT : aA env L (n + 1) 32 args h = aN env (aA env L n) L h.length [] ([]) aGo NF (args ++ List.replicate (Try.f32.ntmps - args.length) (.d .undef)) h (kFin env.P h.length true [.tmp 2]) :=
 a8 (mode := 2) (by kernel_rfl) Try.func32 (by kernel_rfl) (by kernel_rfl) aGN (by kernel_rfl) (by kernel_rfl)
noncomputable def YX : SC := bN Try.f36
noncomputable def gB : Nat → Code := lpOf Try.f36
theorem zQ : aP (a6 Try.f36) = true := by kernel_rfl
theorem aHJ : aA env L (n + 1) 36 args h = aN env (aA env L n) L h.length [] (Z2 (U4 (U1 (Z8 (Z2 (Z1 (U2 (U1 (Z4 (U1 (Z8 (Z1 (U2 (U1 (Z16 ([])))))))))))))))) gB YX (args ++ List.replicate (Try.f36.ntmps - args.length) (.d .undef)) h (kFin env.P h.length false [.tmp 2]) :=
 a8 (mode := 2) (by kernel_rfl) Try.func36 (by kernel_rfl) (by kernel_rfl) zQ (by kernel_rfl) (by kernel_rfl)
noncomputable def GD : SC := cO Try.f36 0
theorem IJ : aO env call L nf thaw live (gB 0) m (n + 1) s h k = aN env call L nf thaw live gB GD s h (cJ env call L nf thaw live (gB 0) m n k) :=
 aS zQ (by kernel_rfl)
noncomputable def FW : SC := cO Try.f36 1
theorem JB : aO env call L nf thaw live (gB 1) m (n + 1) s h k = aN env call L nf thaw live gB FW s h (cJ env call L nf thaw live (gB 1) m n k) :=
 aS zQ (by kernel_rfl)
noncomputable def FS : SC := cO Try.f36 2
theorem IX : aO env call L nf thaw live (gB 2) m (n + 1) s h k = aN env call L nf thaw live gB FS s h (cJ env call L nf thaw live (gB 2) m n k) :=
 aS zQ (by kernel_rfl)
noncomputable def SA : SC := bN Try.f39
noncomputable def oE : Nat → Code := lpOf Try.f39
theorem NZ : aP (a6 Try.f39) = true := by kernel_rfl
theorem aDe : aA env L (n + 1) 39 args h = aN env (aA env L n) L h.length [0,0,0,2] (U1 (Z1 (U2 (Z1 (U1 (Z8 (Z2 (Z1 ([]))))))))) oE SA (args ++ List.replicate (Try.f39.ntmps - args.length) (.d .undef)) h (kFin env.P h.length false [.tmp 2]) :=
 a8 (mode := 2) (by kernel_rfl) Try.func39 (by kernel_rfl) (by kernel_rfl) NZ (by kernel_rfl) (by kernel_rfl)
noncomputable def tK : SC := cO Try.f39 0
theorem uG : aO env call L nf thaw live (oE 0) m (n + 1) s h k = aN env call L nf thaw live oE tK s h (cJ env call L nf thaw live (oE 0) m n k) :=
 aS NZ (by kernel_rfl)
noncomputable def iN : SC := bN Try.f41
noncomputable def mB : Nat → Code := lpOf Try.f41
theorem CK : aP (a6 Try.f41) = true := by kernel_rfl
theorem jL : aA env L (n + 1) 41 args h = aN env (aA env L n) L h.length [] (Z1 (U4 (Z32 (Z4 (Z2 (Z1 ([]))))))) mB iN (args ++ List.replicate (Try.f41.ntmps - args.length) (.d .undef)) h (kFin env.P h.length false [.tmp 2]) :=
 a8 (mode := 1) (by kernel_rfl) Try.func41 (by kernel_rfl) (by kernel_rfl) CK (by kernel_rfl) (by kernel_rfl)
noncomputable def nW : SC := cO Try.f41 0
theorem o6 : aO env call L nf thaw live (mB 0) m (n + 1) s h k = aN env call L nf thaw live mB nW s h (cJ env call L nf thaw live (mB 0) m n k) :=
 aS CK (by kernel_rfl)
noncomputable def SH : SC := bN Try.f44
noncomputable def rC : Nat → Code := lpOf Try.f44
theorem N3 : aP (a6 Try.f44) = true := by kernel_rfl
theorem aDL : aA env L (n + 1) 44 args h = aN env (aA env L n) L h.length [] (U1 (Z1 (U2 (U1 (Z8 (Z4 (Z1 ([])))))))) rC SH (args ++ List.replicate (Try.f44.ntmps - args.length) (.d .undef)) h (kFin env.P h.length false [.tmp 2]) :=
 a8 (mode := 2) (by kernel_rfl) Try.func44 (by kernel_rfl) (by kernel_rfl) N3 (by kernel_rfl) (by kernel_rfl)
noncomputable def tA : SC := cO Try.f44 0
theorem tT : aO env call L nf thaw live (rC 0) m (n + 1) s h k = aN env call L nf thaw live rC tA s h (cJ env call L nf thaw live (rC 0) m n k) :=
 aS N3 (by kernel_rfl)
noncomputable def aAx : SC := bN Try.f45
noncomputable def aMc : Nat → Code := lpOf Try.f45
theorem aNf : aP (a6 Try.f45) = true := by kernel_rfl
theorem aFa : aA env L (n + 1) 45 args h = aN env (aA env L n) L h.length [] ([]) aMc aAx (args ++ List.replicate (Try.f45.ntmps - args.length) (.d .undef)) h (kFin env.P h.length false [.tmp 6]) :=
 a8 (mode := 1) (by kernel_rfl) Try.func45 (by kernel_rfl) (by kernel_rfl) aNf (by kernel_rfl) (by kernel_rfl)
noncomputable def NW : SC := bN Try.f49
noncomputable def aCE : Nat → Code := lpOf Try.f49
theorem aCA : aP (a6 Try.f49) = true := by kernel_rfl
theorem aBD : aA env L (n + 1) 49 args h = aN env (aA env L n) L h.length [] ([]) aCE NW (args ++ List.replicate (Try.f49.ntmps - args.length) (.d .undef)) h (kFin env.P h.length false [.tmp 2]) :=
 a8 (mode := 1) (by kernel_rfl) Try.func49 (by kernel_rfl) (by kernel_rfl) aCA (by kernel_rfl) (by kernel_rfl)
noncomputable def OW : SC := bN Try.f50
noncomputable def aBX : Nat → Code := lpOf Try.f50
theorem aCX : aP (a6 Try.f50) = true := by kernel_rfl
theorem aAR : aA env L (n + 1) 50 args h = aN env (aA env L n) L h.length [] ([]) aBX OW (args ++ List.replicate (Try.f50.ntmps - args.length) (.d .undef)) h (kFin env.P h.length false [.tmp 2]) :=
 a8 (mode := 1) (by kernel_rfl) Try.func50 (by kernel_rfl) (by kernel_rfl) aCX (by kernel_rfl) (by kernel_rfl)
noncomputable def sF : SC := bN Try.f51
noncomputable def eL : Nat → Code := lpOf Try.f51
theorem rF : aP (a6 Try.f51) = true := by kernel_rfl
theorem EK : aA env L (n + 1) 51 args h = aN env (aA env L n) L h.length [] (U1 (Z1 (U2 (Z16 (Z8 ([])))))) eL sF (args ++ List.replicate (Try.f51.ntmps - args.length) (.d .undef)) h (kFin env.P h.length false []) :=
 a8 (mode := 0) (by kernel_rfl) Try.func51 (by kernel_rfl) (by kernel_rfl) rF (by kernel_rfl) (by kernel_rfl)
noncomputable def i8 : SC := cO Try.f51 0
theorem kE : aO env call L nf thaw live (eL 0) m (n + 1) s h k = aN env call L nf thaw live eL i8 s h (cJ env call L nf thaw live (eL 0) m n k) :=
 aS rF (by kernel_rfl)
noncomputable def EW : SC := bN Try.f67
noncomputable def AF : Nat → Code := lpOf Try.f67
theorem aCO : aP (a6 Try.f67) = true := by kernel_rfl
theorem HW : aA env L (n + 1) 67 args h = aN env (aA env L n) L h.length [] (U1 (Z1 (U2 (U1 (Z16 (Z4 (Z2 (Z1 ([]))))))))) AF EW (args ++ List.replicate (Try.f67.ntmps - args.length) (.d .undef)) h (kFin env.P h.length false Try.f67.results.toList) :=
 a8 (mode := 0) (by kernel_rfl) Try.func67 (by kernel_rfl) (by kernel_rfl) aCO (by kernel_rfl) (by kernel_rfl)
noncomputable def M8 : SC := cO Try.f67 0
theorem PD : aO env call L nf thaw live (AF 0) m (n + 1) s h k = aN env call L nf thaw live AF M8 s h (cJ env call L nf thaw live (AF 0) m n k) :=
 aS aCO (by kernel_rfl)
noncomputable def aJu : SC := bN Try.f68
noncomputable def aO5 : Nat → Code := lpOf Try.f68
theorem aOe : aP (a6 Try.f68) = true := by kernel_rfl
theorem aOG : aA env L (n + 1) 68 args h = aN env (aA env L n) L h.length [] ([]) aO5 aJu (args ++ List.replicate (Try.f68.ntmps - args.length) (.d .undef)) h (kFin env.P h.length false [.tmp 4]) :=
 a8 (mode := 1) (by kernel_rfl) Try.func68 (by kernel_rfl) (by kernel_rfl) aOe (by kernel_rfl) (by kernel_rfl)
noncomputable def aCT : SC := bN Try.f69
noncomputable def mR : Nat → Code := lpOf Try.f69
theorem NK : aP (a6 Try.f69) = true := by kernel_rfl
theorem aIu : aA env L (n + 1) 69 args h = aN env (aA env L n) L h.length [] (Z1 (U4 (U2 (U1 (Z32 (Z16 (Z8 (Z4 (Z1 ([])))))))))) mR aCT (args ++ List.replicate (Try.f69.ntmps - args.length) (.d .undef)) h (kFin env.P h.length false Try.f69.results.toList) :=
 a8 (mode := 2) (by kernel_rfl) Try.func69 (by kernel_rfl) (by kernel_rfl) NK (by kernel_rfl) (by kernel_rfl)
noncomputable def BT : SC := cO Try.f69 0
theorem A3 : aO env call L nf thaw live (mR 0) m (n + 1) s h k = aN env call L nf thaw live mR BT s h (cJ env call L nf thaw live (mR 0) m n k) :=
 aS NK (by kernel_rfl)
noncomputable def JD : SC := cO Try.f69 1
theorem MF : aO env call L nf thaw live (mR 1) m (n + 1) s h k = aN env call L nf thaw live mR JD s h (cJ env call L nf thaw live (mR 1) m n k) :=
 aS NK (by kernel_rfl)
noncomputable def u5 : SC := bN Try.f70
noncomputable def aBu : Nat → Code := lpOf Try.f70
theorem aBv : aP (a6 Try.f70) = true := by kernel_rfl
theorem BK : aA env L (n + 1) 70 args h = aN env (aA env L n) L h.length [] ([]) aBu u5 (args ++ List.replicate (Try.f70.ntmps - args.length) (.d .undef)) h (kFin env.P h.length false [.tmp 4,.tmp 5]) :=
 a8 (mode := 1) (by kernel_rfl) Try.func70 (by kernel_rfl) (by kernel_rfl) aBv (by kernel_rfl) (by kernel_rfl)
noncomputable def DP : SC := bN Try.f71
noncomputable def aCe : Nat → Code := lpOf Try.f71
theorem aCw : aP (a6 Try.f71) = true := by kernel_rfl
theorem L8 : aA env L (n + 1) 71 args h = aN env (aA env L n) L h.length [] ([]) aCe DP (args ++ List.replicate (Try.f71.ntmps - args.length) (.d .undef)) h (kFin env.P h.length false [.tmp 4,.tmp 5]) :=
 a8 (mode := 1) (by kernel_rfl) Try.func71 (by kernel_rfl) (by kernel_rfl) aCw (by kernel_rfl) (by kernel_rfl)
theorem wD {L n : Nat} {args : List A} {h : H} : aA env L (n + 1) 72 args h = IK 73 args h := by
 have : env.prim 72 = some (IK 73) := by kernel_rfl
 simp only [aA,this]
noncomputable def zP : SC := bN Try.f73
noncomputable def RQ : Nat → Code := lpOf Try.f73
theorem SG : aP (a6 Try.f73) = true := by kernel_rfl
theorem aFO : aA env L (n + 1) 73 args h = aN env (aA env L n) L h.length [] ([]) RQ zP (args ++ List.replicate (Try.f73.ntmps - args.length) (.d .undef)) h (kFin env.P h.length false [.tmp 4]) :=
 a8 (mode := 1) (by kernel_rfl) Try.func73 (by kernel_rfl) (by kernel_rfl) SG (by kernel_rfl) (by kernel_rfl)
noncomputable def qT : SC := bN Try.f74
noncomputable def aCW : Nat → Code := lpOf Try.f74
theorem aBN : aP (a6 Try.f74) = true := by kernel_rfl
theorem tB : aA env L (n + 1) 74 args h = aN env (aA env L n) L h.length [] ([]) aCW qT (args ++ List.replicate (Try.f74.ntmps - args.length) (.d .undef)) h (kFin env.P h.length false [.tmp 4]) :=
 a8 (mode := 0) (by kernel_rfl) Try.func74 (by kernel_rfl) (by kernel_rfl) aBN (by kernel_rfl) (by kernel_rfl)
noncomputable def aEn : SC := bN Try.f75
noncomputable def vI : Nat → Code := lpOf Try.f75
theorem aCY : aP (a6 Try.f75) = true := by kernel_rfl
theorem aJU : aA env L (n + 1) 75 args h = aN env (aA env L n) L h.length [] (U1 (Z1 (U2 (U1 (Z16 (Z8 (Z4 (Z2 (Z1 ([])))))))))) vI aEn (args ++ List.replicate (Try.f75.ntmps - args.length) (.d .undef)) h (kFin env.P h.length false Try.f75.results.toList) :=
 a8 (mode := 0) (by kernel_rfl) Try.func75 (by kernel_rfl) (by kernel_rfl) aCY (by kernel_rfl) (by kernel_rfl)
noncomputable def D8 : SC := cO Try.f75 0
theorem CW : aO env call L nf thaw live (vI 0) m (n + 1) s h k = aN env call L nf thaw live vI D8 s h (cJ env call L nf thaw live (vI 0) m n k) :=
 aS aCY (by kernel_rfl)
noncomputable def mM : SC := bN Try.f76
noncomputable def uM : Nat → Code := lpOf Try.f76
theorem TH : aP (a6 Try.f76) = true := by kernel_rfl
theorem m3 : aA env L (n + 1) 76 args h = aN env (aA env L n) L h.length [0,0,0,0,0,0,0,0,0,0,0,0,0,0,0,0,0,0,0,0,0,0,0,0,0,0,0,0,0,0,0,0,0,0,0,0,0,0,0,0,0,0,0,0,0,0,0,0,0,0,0,0,0,0,0,0,0,0,0,0,0,0,0,0,0,0,0,0,0,0,0,0,0,0,0,0,0,0,0,0,0,0,0,1002,0,0,0,0,0,0,0,0,0,0,0,0,0,0,0,0,0,0,0,0,0,1002] (Z4 (U2 (U1 (Z32 (Z32 (Z32 (Z8 (Z2 (Z1 ([])))))))))) uM mM (args ++ List.replicate (Try.f76.ntmps - args.length) (.d .undef)) h (kFin env.P h.length false Try.f76.results.toList) :=
 a8 (mode := 0) (by kernel_rfl) Try.func76 (by kernel_rfl) (by kernel_rfl) TH (by kernel_rfl) (by kernel_rfl)
noncomputable def F3 : SC := cO Try.f76 0
theorem JR : aO env call L nf thaw live (uM 0) m (n + 1) s h k = aN env call L nf thaw live uM F3 s h (cJ env call L nf thaw live (uM 0) m n k) :=
 aS TH (by kernel_rfl)
noncomputable def QX : SC := bN Try.f77
noncomputable def aIt : Nat → Code := lpOf Try.f77
theorem aI8 : aP (a6 Try.f77) = true := by kernel_rfl
theorem ZU : aA env L (n + 1) 77 args h = aN env (aA env L n) L h.length [] ([]) aIt QX (args ++ List.replicate (Try.f77.ntmps - args.length) (.d .undef)) h (kFin env.P h.length false Try.f77.results.toList) :=
 a8 (mode := 0) (by kernel_rfl) Try.func77 (by kernel_rfl) (by kernel_rfl) aI8 (by kernel_rfl) (by kernel_rfl)
noncomputable def RW : SC := bN Try.f78
noncomputable def aC9 : Nat → Code := lpOf Try.f78
theorem aDq : aP (a6 Try.f78) = true := by kernel_rfl
theorem aDI : aA env L (n + 1) 78 args h = aN env (aA env L n) L h.length [] ([]) aC9 RW (args ++ List.replicate (Try.f78.ntmps - args.length) (.d .undef)) h (kFin env.P h.length false [.tmp 4]) :=
 a8 (mode := 0) (by kernel_rfl) Try.func78 (by kernel_rfl) (by kernel_rfl) aDq (by kernel_rfl) (by kernel_rfl)
noncomputable def OO : SC := bN Try.f79
noncomputable def aBJ : Nat → Code := lpOf Try.f79
theorem aA5 : aP (a6 Try.f79) = true := by kernel_rfl
theorem aB2 : aA env L (n + 1) 79 args h = aN env (aA env L n) L h.length [] ([]) aBJ OO (args ++ List.replicate (Try.f79.ntmps - args.length) (.d .undef)) h (kFin env.P h.length false [.tmp 2]) :=
 a8 (mode := 1) (by kernel_rfl) Try.func79 (by kernel_rfl) (by kernel_rfl) aA5 (by kernel_rfl) (by kernel_rfl)
noncomputable def LS : SC := bN Try.f80
noncomputable def BQ : Nat → Code := lpOf Try.f80
theorem aCD : aP (a6 Try.f80) = true := by kernel_rfl
theorem QF : aA env L (n + 1) 80 args h = aN env (aA env L n) L h.length [] (U1 (Z1 (U1 (Z2 (Z1 (U2 (Z16 (Z4 (Z2 (Z1 ([]))))))))))) BQ LS (args ++ List.replicate (Try.f80.ntmps - args.length) (.d .undef)) h (kFin env.P h.length false [.tmp 6]) :=
 a8 (mode := 1) (by kernel_rfl) Try.func80 (by kernel_rfl) (by kernel_rfl) aCD (by kernel_rfl) (by kernel_rfl)
noncomputable def xJ : SC := cO Try.f80 0
theorem vH : aO env call L nf thaw live (BQ 0) m (n + 1) s h k = aN env call L nf thaw live BQ xJ s h (cJ env call L nf thaw live (BQ 0) m n k) :=
 aS aCD (by kernel_rfl)
noncomputable def aD2 : SC := bN Try.f81
noncomputable def aKF : Nat → Code := lpOf Try.f81
theorem aKe : aP (a6 Try.f81) = true := by kernel_rfl
theorem aJ5 : aA env L (n + 1) 81 args h = aN env (aA env L n) L h.length [] ([]) aKF aD2 (args ++ List.replicate (Try.f81.ntmps - args.length) (.d .undef)) h (kFin env.P h.length false [.tmp 4]) :=
 a8 (mode := 1) (by kernel_rfl) Try.func81 (by kernel_rfl) (by kernel_rfl) aKe (by kernel_rfl) (by kernel_rfl)
noncomputable def ZL : SC := bN Try.f83
noncomputable def uP : Nat → Code := lpOf Try.f83
theorem VP : aP (a6 Try.f83) = true := by kernel_rfl
theorem aGq : aA env L (n + 1) 83 args h = aN env (aA env L n) L h.length [] (U2 (Z2 (U2 (U1 (Z8 (Z2 (Z1 ([])))))))) uP ZL (args ++ List.replicate (Try.f83.ntmps - args.length) (.d .undef)) h (kFin env.P h.length false [.tmp 4]) :=
 a8 (mode := 1) (by kernel_rfl) Try.func83 (by kernel_rfl) (by kernel_rfl) VP (by kernel_rfl) (by kernel_rfl)
noncomputable def x4 : SC := cO Try.f83 0
theorem yA : aO env call L nf thaw live (uP 0) m (n + 1) s h k = aN env call L nf thaw live uP x4 s h (cJ env call L nf thaw live (uP 0) m n k) :=
 aS VP (by kernel_rfl)
noncomputable def D0 : SC := bN Try.f85
noncomputable def aG0 : Nat → Code := lpOf Try.f85
theorem aG9 : aP (a6 Try.f85) = true := by kernel_rfl
theorem JE : aA env L (n + 1) 85 args h = aN env (aA env L n) L h.length [] ([]) aG0 D0 (args ++ List.replicate (Try.f85.ntmps - args.length) (.d .undef)) h (kFin env.P h.length false [.tmp 4]) :=
 a8 (mode := 1) (by kernel_rfl) Try.func85 (by kernel_rfl) (by kernel_rfl) aG9 (by kernel_rfl) (by kernel_rfl)
noncomputable def D6 : SC := bN Try.f86
noncomputable def dF : Nat → Code := lpOf Try.f86
theorem uK : aP (a6 Try.f86) = true := by kernel_rfl
theorem JX : aA env L (n + 1) 86 args h = aN env (aA env L n) L h.length [] (Z1 (U8 (U4 (U2 (U1 (Z32 (Z32 (Z16 (Z8 (Z2 (Z1 ([])))))))))))) dF D6 (args ++ List.replicate (Try.f86.ntmps - args.length) (.d .undef)) h (kFin env.P h.length false [.tmp 2,.tmp 3]) :=
 a8 (mode := 1) (by kernel_rfl) Try.func86 (by kernel_rfl) (by kernel_rfl) uK (by kernel_rfl) (by kernel_rfl)
noncomputable def FZ : SC := cO Try.f86 0
theorem IC : aO env call L nf thaw live (dF 0) m (n + 1) s h k = aN env call L nf thaw live dF FZ s h (cJ env call L nf thaw live (dF 0) m n k) :=
 aS uK (by kernel_rfl)
noncomputable def xY : SC := cO Try.f86 1
theorem yH : aO env call L nf thaw live (dF 1) m (n + 1) s h k = aN env call L nf thaw live dF xY s h (cJ env call L nf thaw live (dF 1) m n k) :=
 aS uK (by kernel_rfl)
noncomputable def sJ : SC := cO Try.f86 2
theorem sB : aO env call L nf thaw live (dF 2) m (n + 1) s h k = aN env call L nf thaw live dF sJ s h (cJ env call L nf thaw live (dF 2) m n k) :=
 aS uK (by kernel_rfl)
noncomputable def sG : SC := cO Try.f86 3
theorem r9 : aO env call L nf thaw live (dF 3) m (n + 1) s h k = aN env call L nf thaw live dF sG s h (cJ env call L nf thaw live (dF 3) m n k) :=
 aS uK (by kernel_rfl)
noncomputable def jR : SC := bN Try.f93
noncomputable def aFF : Nat → Code := lpOf Try.f93
theorem aFB : aP (a6 Try.f93) = true := by kernel_rfl
theorem jV : aA env L (n + 1) 93 args h = aN env (aA env L n) L h.length [0,0,0,0,0,0,0,0,0,0,0,0,0,0,0,0,0,0,0,0,0,0,0,0,0,0,0,0,0,0,0,0,0,0,0,0,0,0,0,0,0,0,0,0,0,0,0,0,0,0,0,0,0,0,0,0,0,0,0,0,0,0,0,0,0,0,0,0,0,0,0,0,0,0,0,0,0,0,0,0,0,0,0,0,0,0,0,0,0,0,0,0,0,1002] ([]) aFF jR (args ++ List.replicate (Try.f93.ntmps - args.length) (.d .undef)) h (kFin env.P h.length false Try.f93.results.toList) :=
 a8 (mode := 0) (by kernel_rfl) Try.func93 (by kernel_rfl) (by kernel_rfl) aFB (by kernel_rfl) (by kernel_rfl)
noncomputable def YY : SC := bN Try.f94
noncomputable def jP : Nat → Code := lpOf Try.f94
theorem IB : aP (a6 Try.f94) = true := by kernel_rfl
theorem aGK : aA env L (n + 1) 94 args h = aN env (aA env L n) L h.length [] (Z1 (U4 (U2 (Z32 (Z4 ([])))))) jP YY (args ++ List.replicate (Try.f94.ntmps - args.length) (.d .undef)) h (kFin env.P h.length false [.tmp 2]) :=
 a8 (mode := 2) (by kernel_rfl) Try.func94 (by kernel_rfl) (by kernel_rfl) IB (by kernel_rfl) (by kernel_rfl)
noncomputable def FR : SC := cO Try.f94 0
theorem JG : aO env call L nf thaw live (jP 0) m (n + 1) s h k = aN env call L nf thaw live jP FR s h (cJ env call L nf thaw live (jP 0) m n k) :=
 aS IB (by kernel_rfl)
noncomputable def xQ : SC := cO Try.f94 1
theorem yR : aO env call L nf thaw live (jP 1) m (n + 1) s h k = aN env call L nf thaw live jP xQ s h (cJ env call L nf thaw live (jP 1) m n k) :=
 aS IB (by kernel_rfl)
noncomputable def Y7 : SC := bN Try.f95
noncomputable def uI : Nat → Code := lpOf Try.f95
theorem TD : aP (a6 Try.f95) = true := by kernel_rfl
theorem aGJ : aA env L (n + 1) 95 args h = aN env (aA env L n) L h.length [] (U2 (Z2 (U2 (Z8 (Z1 ([])))))) uI Y7 (args ++ List.replicate (Try.f95.ntmps - args.length) (.d .undef)) h (kFin env.P h.length false [.tmp 4]) :=
 a8 (mode := 1) (by kernel_rfl) Try.func95 (by kernel_rfl) (by kernel_rfl) TD (by kernel_rfl) (by kernel_rfl)
noncomputable def F0 : SC := cO Try.f95 0
theorem JN : aO env call L nf thaw live (uI 0) m (n + 1) s h k = aN env call L nf thaw live uI F0 s h (cJ env call L nf thaw live (uI 0) m n k) :=
 aS TD (by kernel_rfl)
noncomputable def SN : SC := bN Try.f96
noncomputable def aDM : Nat → Code := lpOf Try.f96
theorem aC6 : aP (a6 Try.f96) = true := by kernel_rfl
theorem aDi : aA env L (n + 1) 96 args h = aN env (aA env L n) L h.length [] ([]) aDM SN (args ++ List.replicate (Try.f96.ntmps - args.length) (.d .undef)) h (kFin env.P h.length false [.tmp 4,.tmp 5]) :=
 a8 (mode := 1) (by kernel_rfl) Try.func96 (by kernel_rfl) (by kernel_rfl) aC6 (by kernel_rfl) (by kernel_rfl)
noncomputable def wC : SC := bN Try.f97
noncomputable def V0 : Nat → Code := lpOf Try.f97
theorem TA : aP (a6 Try.f97) = true := by kernel_rfl
theorem EO : aA env L (n + 1) 97 args h = aN env (aA env L n) L h.length [] ([]) V0 wC (args ++ List.replicate (Try.f97.ntmps - args.length) (.d .undef)) h (kFin env.P h.length false [.tmp 3]) :=
 a8 (mode := 0) (by kernel_rfl) Try.func97 (by kernel_rfl) (by kernel_rfl) TA (by kernel_rfl) (by kernel_rfl)
noncomputable def qY : SC := bN Try.f100
noncomputable def iT : Nat → Code := lpOf Try.f100
theorem xZ : aP (a6 Try.f100) = true := by kernel_rfl
theorem RY : aA env L (n + 1) 100 args h = aN env (aA env L n) L h.length [] (Z2 (U2 (Z2 (U2 (U1 (Z8 (Z1 ([])))))))) iT qY (args ++ List.replicate (Try.f100.ntmps - args.length) (.d .undef)) h (kFin env.P h.length false [.tmp 2]) :=
 a8 (mode := 1) (by kernel_rfl) Try.func100 (by kernel_rfl) (by kernel_rfl) xZ (by kernel_rfl) (by kernel_rfl)
noncomputable def j3 : SC := cO Try.f100 0
theorem v8 : aO env call L nf thaw live (iT 0) m (n + 1) s h k = aN env call L nf thaw live iT j3 s h (cJ env call L nf thaw live (iT 0) m n k) :=
 aS xZ (by kernel_rfl)
noncomputable def gY : SC := bN Try.f101
noncomputable def EQ : Nat → Code := lpOf Try.f101
theorem FB : aP (a6 Try.f101) = true := by kernel_rfl
theorem tY : aA env L (n + 1) 101 args h = aN env (aA env L n) L h.length [] ([]) EQ gY (args ++ List.replicate (Try.f101.ntmps - args.length) (.d .undef)) h (kFin env.P h.length false [.tmp 4]) :=
 a8 (mode := 1) (by kernel_rfl) Try.func101 (by kernel_rfl) (by kernel_rfl) FB (by kernel_rfl) (by kernel_rfl)
noncomputable def eV : SC := bN Try.f102
noncomputable def zK : Nat → Code := lpOf Try.f102
theorem zH : aP (a6 Try.f102) = true := by kernel_rfl
theorem qM : aA env L (n + 1) 102 args h = aN env (aA env L n) L h.length [] ([]) zK eV (args ++ List.replicate (Try.f102.ntmps - args.length) (.d .undef)) h (kFin env.P h.length false [.tmp 4]) :=
 a8 (mode := 1) (by kernel_rfl) Try.func102 (by kernel_rfl) (by kernel_rfl) zH (by kernel_rfl) (by kernel_rfl)
noncomputable def aBp : SC := bN Try.f103
noncomputable def pT : Nat → Code := lpOf Try.f103
theorem ZH : aP (a6 Try.f103) = true := by kernel_rfl
theorem aIx : aA env L (n + 1) 103 args h = aN env (aA env L n) L h.length [0,0,0,0,0,0,0,0,0,0,0,0,0,0,0,0,0,0,0,0,0,0,0,0,0,0,0,0,1002] (Z1 (U4 (Z16 (Z8 (Z2 (Z1 ([]))))))) pT aBp (args ++ List.replicate (Try.f103.ntmps - args.length) (.d .undef)) h (kFin env.P h.length true Try.f103.results.toList) :=
 a8 (mode := 2) (by kernel_rfl) Try.func103 (by kernel_rfl) (by kernel_rfl) ZH (by kernel_rfl) (by kernel_rfl)
noncomputable def AM : SC := cO Try.f103 0
theorem AU : aO env call L nf thaw live (pT 0) m (n + 1) s h k = aN env call L nf thaw live pT AM s h (cJ env call L nf thaw live (pT 0) m n k) :=
 aS ZH (by kernel_rfl)
noncomputable def VB : SC := bN Try.f105
noncomputable def aFK : Nat → Code := lpOf Try.f105
theorem aFW : aP (a6 Try.f105) = true := by kernel_rfl
theorem aFD : aA env L (n + 1) 105 args h = aN env (aA env L n) L h.length [] ([]) aFK VB (args ++ List.replicate (Try.f105.ntmps - args.length) (.d .undef)) h (kFin env.P h.length false [.tmp 4]) :=
 a8 (mode := 0) (by kernel_rfl) Try.func105 (by kernel_rfl) (by kernel_rfl) aFW (by kernel_rfl) (by kernel_rfl)
noncomputable def PZ : SC := bN Try.f107
noncomputable def aIW : Nat → Code := lpOf Try.f107
theorem aI2 : aP (a6 Try.f107) = true := by kernel_rfl
theorem YT : aA env L (n + 1) 107 args h = aN env (aA env L n) L h.length [] ([]) aIW PZ (args ++ List.replicate (Try.f107.ntmps - args.length) (.d .undef)) h (kFin env.P h.length false Try.f107.results.toList) :=
 a8 (mode := 0) (by kernel_rfl) Try.func107 (by kernel_rfl) (by kernel_rfl) aI2 (by kernel_rfl) (by kernel_rfl)
noncomputable def YG : SC := bN Try.f108
noncomputable def kQ : Nat → Code := lpOf Try.f108
theorem I5 : aP (a6 Try.f108) = true := by kernel_rfl
theorem aGe : aA env L (n + 1) 108 args h = aN env (aA env L n) L h.length [] (Z1 (U4 (U1 (Z32 (Z2 (Z1 ([]))))))) kQ YG (args ++ List.replicate (Try.f108.ntmps - args.length) (.d .undef)) h (kFin env.P h.length false [.tmp 2]) :=
 a8 (mode := 2) (by kernel_rfl) Try.func108 (by kernel_rfl) (by kernel_rfl) I5 (by kernel_rfl) (by kernel_rfl)
noncomputable def F8 : SC := cO Try.f108 0
theorem IE : aO env call L nf thaw live (kQ 0) m (n + 1) s h k = aN env call L nf thaw live kQ F8 s h (cJ env call L nf thaw live (kQ 0) m n k) :=
 aS I5 (by kernel_rfl)
noncomputable def FV : SC := cO Try.f108 1
theorem KQ : aO env call L nf thaw live (kQ 1) m (n + 1) s h k = aN env call L nf thaw live kQ FV s h (cJ env call L nf thaw live (kQ 1) m n k) :=
 aS I5 (by kernel_rfl)
noncomputable def XV : SC := bN Try.f109
noncomputable def kY : Nat → Code := lpOf Try.f109
theorem JL : aP (a6 Try.f109) = true := by kernel_rfl
theorem aHx : aA env L (n + 1) 109 args h = aN env (aA env L n) L h.length [] (Z1 (U2 (U1 (Z2 (U4 (U2 (U1 (Z32 (Z2 (Z1 ([]))))))))))) kY XV (args ++ List.replicate (Try.f109.ntmps - args.length) (.d .undef)) h (kFin env.P h.length false [.tmp 6]) :=
 a8 (mode := 2) (by kernel_rfl) Try.func109 (by kernel_rfl) (by kernel_rfl) JL (by kernel_rfl) (by kernel_rfl)
noncomputable def F7 : SC := cO Try.f109 0
theorem IF : aO env call L nf thaw live (kY 0) m (n + 1) s h k = aN env call L nf thaw live kY F7 s h (cJ env call L nf thaw live (kY 0) m n k) :=
 aS JL (by kernel_rfl)
noncomputable def FP : SC := cO Try.f109 1
theorem JA : aO env call L nf thaw live (kY 1) m (n + 1) s h k = aN env call L nf thaw live kY FP s h (cJ env call L nf thaw live (kY 1) m n k) :=
 aS JL (by kernel_rfl)
noncomputable def ZY : SC := bN Try.f110
noncomputable def aHy : Nat → Code := lpOf Try.f110
theorem aHH : aP (a6 Try.f110) = true := by kernel_rfl
theorem aH1 : aA env L (n + 1) 110 args h = aN env (aA env L n) L h.length [] (Z2 (U1 (Z2 (Z1 (U2 (Z32 (Z16 (Z8 ([]))))))))) aHy ZY (args ++ List.replicate (Try.f110.ntmps - args.length) (.d .undef)) h (kFin env.P h.length false [.tmp 6]) :=
 a8 (mode := 1) (by kernel_rfl) Try.func110 (by kernel_rfl) (by kernel_rfl) aHH (by kernel_rfl) (by kernel_rfl)
noncomputable def TW : SC := bN Try.f111
noncomputable def sH : Nat → Code := lpOf Try.f111
theorem RC : aP (a6 Try.f111) = true := by kernel_rfl
theorem aFU : aA env L (n + 1) 111 args h = aN env (aA env L n) L h.length [] (U2 (Z2 (U2 (U1 (Z16 (Z8 (Z2 ([])))))))) sH TW (args ++ List.replicate (Try.f111.ntmps - args.length) (.d .undef)) h (kFin env.P h.length false [.tmp 4]) :=
 a8 (mode := 2) (by kernel_rfl) Try.func111 (by kernel_rfl) (by kernel_rfl) RC (by kernel_rfl) (by kernel_rfl)
noncomputable def DM : SC := cO Try.f111 0
theorem GL : aO env call L nf thaw live (sH 0) m (n + 1) s h k = aN env call L nf thaw live sH DM s h (cJ env call L nf thaw live (sH 0) m n k) :=
 aS RC (by kernel_rfl)
noncomputable def aA9 : SC := bN Try.f112
noncomputable def kN : Nat → Code := lpOf Try.f112
theorem ND : aP (a6 Try.f112) = true := by kernel_rfl
theorem aI6 : aA env L (n + 1) 112 args h = aN env (aA env L n) L h.length [] (U2 (Z2 (U2 (U1 (Z16 (Z8 (Z4 ([])))))))) kN aA9 (args ++ List.replicate (Try.f112.ntmps - args.length) (.d .undef)) h (kFin env.P h.length false []) :=
 a8 (mode := 0) (by kernel_rfl) Try.func112 (by kernel_rfl) (by kernel_rfl) ND (by kernel_rfl) (by kernel_rfl)
noncomputable def A6 : SC := cO Try.f112 0
theorem BY : aO env call L nf thaw live (kN 0) m (n + 1) s h k = aN env call L nf thaw live kN A6 s h (cJ env call L nf thaw live (kN 0) m n k) :=
 aS ND (by kernel_rfl)
noncomputable def tS : SC := cO Try.f112 1
theorem tI : aO env call L nf thaw live (kN 1) m (n + 1) s h k = aN env call L nf thaw live kN tS s h (cJ env call L nf thaw live (kN 1) m n k) :=
 aS ND (by kernel_rfl)
noncomputable def S0 : SC := bN Try.f113
noncomputable def sD : Nat → Code := lpOf Try.f113
theorem R8 : aP (a6 Try.f113) = true := by kernel_rfl
theorem aFC : aA env L (n + 1) 113 args h = aN env (aA env L n) L h.length [] (U2 (Z2 (U2 (U1 (Z16 (Z2 ([]))))))) sD S0 (args ++ List.replicate (Try.f113.ntmps - args.length) (.d .undef)) h (kFin env.P h.length false [.tmp 4]) :=
 a8 (mode := 1) (by kernel_rfl) Try.func113 (by kernel_rfl) (by kernel_rfl) R8 (by kernel_rfl) (by kernel_rfl)
noncomputable def DJ : SC := cO Try.f113 0
theorem GS : aO env call L nf thaw live (sD 0) m (n + 1) s h k = aN env call L nf thaw live sD DJ s h (cJ env call L nf thaw live (sD 0) m n k) :=
 aS R8 (by kernel_rfl)
noncomputable def UV : SC := bN Try.f114
noncomputable def jW : Nat → Code := lpOf Try.f114
theorem FX : aP (a6 Try.f114) = true := by kernel_rfl
theorem aFH : aA env L (n + 1) 114 args h = aN env (aA env L n) L h.length [] (U4 (U1 (Z4 (Z1 (U4 (U1 (Z32 (Z16 (Z1 ([])))))))))) jW UV (args ++ List.replicate (Try.f114.ntmps - args.length) (.d .undef)) h (kFin env.P h.length false [.tmp 10]) :=
 a8 (mode := 2) (by kernel_rfl) Try.func114 (by kernel_rfl) (by kernel_rfl) FX (by kernel_rfl) (by kernel_rfl)
noncomputable def DS : SC := cO Try.f114 0
theorem GE : aO env call L nf thaw live (jW 0) m (n + 1) s h k = aN env call L nf thaw live jW DS s h (cJ env call L nf thaw live (jW 0) m n k) :=
 aS FX (by kernel_rfl)
noncomputable def qJ : SC := cO Try.f114 1
theorem qA : aO env call L nf thaw live (jW 1) m (n + 1) s h k = aN env call L nf thaw live jW qJ s h (cJ env call L nf thaw live (jW 1) m n k) :=
 aS FX (by kernel_rfl)
noncomputable def aCU : SC := bN Try.f115
noncomputable def aH5 : Nat → Code := lpOf Try.f115
theorem aIe : aP (a6 Try.f115) = true := by kernel_rfl
theorem aH6 : aA env L (n + 1) 115 args h = aN env (aA env L n) L h.length [] ([]) aH5 aCU (args ++ List.replicate (Try.f115.ntmps - args.length) (.d .undef)) h (kFin env.P h.length false [.tmp 2]) :=
 a8 (mode := 1) (by kernel_rfl) Try.func115 (by kernel_rfl) (by kernel_rfl) aIe (by kernel_rfl) (by kernel_rfl)
noncomputable def xR : SC := bN Try.f117
noncomputable def eD : Nat → Code := lpOf Try.f117
theorem u7 : aP (a6 Try.f117) = true := by kernel_rfl
theorem DZ : aA env L (n + 1) 117 args h = aN env (aA env L n) L h.length [0,0,0,0,0,0,0,0,0,0,0,0,0,0,0,0,0,0,2] (Z2 (U2 (Z4 (Z2 (U2 (Z1 (U2 (U1 (Z1 (U2 (Z8 (Z4 (Z2 (U2 (U1 (Z4 (Z2 (Z1 (U2 (U1 (Z16 (Z1 ([]))))))))))))))))))))))) eD xR (args ++ List.replicate (Try.f117.ntmps - args.length) (.d .undef)) h (kFin env.P h.length false [.tmp 10,.tmp 11]) :=
 a8 (mode := 1) (by kernel_rfl) Try.func117 (by kernel_rfl) (by kernel_rfl) u7 (by kernel_rfl) (by kernel_rfl)
noncomputable def pB : SC := cO Try.f117 0
theorem pN : aO env call L nf thaw live (eD 0) m (n + 1) s h k = aN env call L nf thaw live eD pB s h (cJ env call L nf thaw live (eD 0) m n k) :=
 aS u7 (by kernel_rfl)
noncomputable def s9 : SC := cO Try.f117 1
theorem uF : aO env call L nf thaw live (eD 1) m (n + 1) s h k = aN env call L nf thaw live eD s9 s h (cJ env call L nf thaw live (eD 1) m n k) :=
 aS u7 (by kernel_rfl)
noncomputable def BU : SC := cO Try.f117 2
theorem EU : aO env call L nf thaw live (eD 2) m (n + 1) s h k = aN env call L nf thaw live eD BU s h (cJ env call L nf thaw live (eD 2) m n k) :=
 aS u7 (by kernel_rfl)
noncomputable def aAf : SC := bN Try.f119
noncomputable def FI : Nat → Code := lpOf Try.f119
theorem aD9 : aP (a6 Try.f119) = true := by kernel_rfl
theorem aEy : aA env L (n + 1) 119 args h = aN env (aA env L n) L h.length [] (U2 (Z2 (U2 (Z8 (Z4 ([])))))) FI aAf (args ++ List.replicate (Try.f119.ntmps - args.length) (.d .undef)) h (kFin env.P h.length false [.tmp 4]) :=
 a8 (mode := 1) (by kernel_rfl) Try.func119 (by kernel_rfl) (by kernel_rfl) aD9 (by kernel_rfl) (by kernel_rfl)
noncomputable def HH : SC := cO Try.f119 0
theorem F2 : aO env call L nf thaw live (FI 0) m (n + 1) s h k = aN env call L nf thaw live FI HH s h (cJ env call L nf thaw live (FI 0) m n k) :=
 aS aD9 (by kernel_rfl)
noncomputable def J4 : SC := bN Try.f120
noncomputable def XL : Nat → Code := lpOf Try.f120
theorem XC : aP (a6 Try.f120) = true := by kernel_rfl
theorem XI : aA env L (n + 1) 120 args h = aN env (aA env L n) L h.length [] ([]) XL J4 (args ++ List.replicate (Try.f120.ntmps - args.length) (.d .undef)) h (kFin env.P h.length false [.tmp 7]) :=
 a8 (mode := 0) (by kernel_rfl) Try.func120 (by kernel_rfl) (by kernel_rfl) XC (by kernel_rfl) (by kernel_rfl)
noncomputable def tO : SC := bN Try.f131
noncomputable def J8 : Nat → Code := lpOf Try.f131
theorem JM : aP (a6 Try.f131) = true := by kernel_rfl
theorem aAq : aA env L (n + 1) 131 args h = aN env (aA env L n) L h.length [] ([]) J8 tO (args ++ List.replicate (Try.f131.ntmps - args.length) (.d .undef)) h (kFin env.P h.length false [.tmp 2]) :=
 a8 (mode := 1) (by kernel_rfl) Try.func131 (by kernel_rfl) (by kernel_rfl) JM (by kernel_rfl) (by kernel_rfl)
noncomputable def pJ : SC := bN Try.f132
noncomputable def B2 : Nat → Code := lpOf Try.f132
theorem CM : aP (a6 Try.f132) = true := by kernel_rfl
theorem SS : aA env L (n + 1) 132 args h = aN env (aA env L n) L h.length [] ([]) B2 pJ (args ++ List.replicate (Try.f132.ntmps - args.length) (.d .undef)) h (kFin env.P h.length false [.tmp 2]) :=
 a8 (mode := 1) (by kernel_rfl) Try.func132 (by kernel_rfl) (by kernel_rfl) CM (by kernel_rfl) (by kernel_rfl)
noncomputable def aBn : SC := bN Try.f137
noncomputable def kL : Nat → Code := lpOf Try.f137
theorem M5 : aP (a6 Try.f137) = true := by kernel_rfl
theorem aIL : aA env L (n + 1) 137 args h = aN env (aA env L n) L h.length [] (Z2 (U1 (Z2 (Z1 (U4 (Z32 (Z4 (Z2 (Z1 ([])))))))))) kL aBn (args ++ List.replicate (Try.f137.ntmps - args.length) (.d .undef)) h (kFin env.P h.length false Try.f137.results.toList) :=
 a8 (mode := 0) (by kernel_rfl) Try.func137 (by kernel_rfl) (by kernel_rfl) M5 (by kernel_rfl) (by kernel_rfl)
noncomputable def IO : SC := cO Try.f137 0
theorem MR : aO env call L nf thaw live (kL 0) m (n + 1) s h k = aN env call L nf thaw live kL IO s h (cJ env call L nf thaw live (kL 0) m n k) :=
 aS M5 (by kernel_rfl)
noncomputable def JT : SC := cO Try.f137 1
theorem LW : aO env call L nf thaw live (kL 1) m (n + 1) s h k = aN env call L nf thaw live kL JT s h (cJ env call L nf thaw live (kL 1) m n k) :=
 aS M5 (by kernel_rfl)
noncomputable def TN : SC := bN Try.f138
noncomputable def gR : Nat → Code := lpOf Try.f138
theorem F4 : aP (a6 Try.f138) = true := by kernel_rfl
theorem aFP : aA env L (n + 1) 138 args h = aN env (aA env L n) L h.length [0,0,0,0,0,0,0,0,0,0,0,0,0,0,0,0,0,0,0,0,0,0,0,0,0,0,0,0,0,0,0,0,0,0,0,0,0,1002] (U1 (Z1 (U1 (Z2 (Z1 (U4 (U2 (Z32 (Z4 (Z1 ([]))))))))))) gR TN (args ++ List.replicate (Try.f138.ntmps - args.length) (.d .undef)) h (kFin env.P h.length true Try.f138.results.toList) :=
 a8 (mode := 0) (by kernel_rfl) Try.func138 (by kernel_rfl) (by kernel_rfl) F4 (by kernel_rfl) (by kernel_rfl)
noncomputable def u4 : SC := cO Try.f138 0
theorem wH : aO env call L nf thaw live (gR 0) m (n + 1) s h k = aN env call L nf thaw live gR u4 s h (cJ env call L nf thaw live (gR 0) m n k) :=
 aS F4 (by kernel_rfl)
noncomputable def qR : SC := cO Try.f138 1
theorem qE : aO env call L nf thaw live (gR 1) m (n + 1) s h k = aN env call L nf thaw live gR qR s h (cJ env call L nf thaw live (gR 1) m n k) :=
 aS F4 (by kernel_rfl)
noncomputable def ZO : SC := bN Try.f139
noncomputable def fY : Nat → Code := lpOf Try.f139
theorem AW : aP (a6 Try.f139) = true := by kernel_rfl
theorem aGd : aA env L (n + 1) 139 args h = aN env (aA env L n) L h.length [] (Z1 (U4 (Z2 (Z1 (U4 (U2 (U1 (Z32 (Z8 (Z4 (Z2 (Z1 ([]))))))))))))) fY ZO (args ++ List.replicate (Try.f139.ntmps - args.length) (.d .undef)) h (kFin env.P h.length false [.tmp 8]) :=
 a8 (mode := 2) (by kernel_rfl) Try.func139 (by kernel_rfl) (by kernel_rfl) AW (by kernel_rfl) (by kernel_rfl)
noncomputable def FQ : SC := cO Try.f139 0
theorem J6 : aO env call L nf thaw live (fY 0) m (n + 1) s h k = aN env call L nf thaw live fY FQ s h (cJ env call L nf thaw live (fY 0) m n k) :=
 aS AW (by kernel_rfl)
noncomputable def FU : SC := cO Try.f139 1
theorem KN : aO env call L nf thaw live (fY 1) m (n + 1) s h k = aN env call L nf thaw live fY FU s h (cJ env call L nf thaw live (fY 1) m n k) :=
 aS AW (by kernel_rfl)
noncomputable def GB : SC := cO Try.f139 2
theorem J7 : aO env call L nf thaw live (fY 2) m (n + 1) s h k = aN env call L nf thaw live fY GB s h (cJ env call L nf thaw live (fY 2) m n k) :=
 aS AW (by kernel_rfl)
noncomputable def aGr : SC := bN Try.f140
noncomputable def aMC : Nat → Code := lpOf Try.f140
theorem aLF : aP (a6 Try.f140) = true := by kernel_rfl
theorem aNA : aA env L (n + 1) 140 args h = aN env (aA env L n) L h.length [] ([]) aMC aGr (args ++ List.replicate (Try.f140.ntmps - args.length) (.d .undef)) h (kFin env.P h.length false [.tmp 6]) :=
 a8 (mode := 1) (by kernel_rfl) Try.func140 (by kernel_rfl) (by kernel_rfl) aLF (by kernel_rfl) (by kernel_rfl)
noncomputable def QS : SC := bN Try.f141
noncomputable def mN : Nat → Code := lpOf Try.f141
theorem M9 : aP (a6 Try.f141) = true := by kernel_rfl
theorem ZC : aA env L (n + 1) 141 args h = aN env (aA env L n) L h.length [] (U2 (U1 (Z2 (Z1 (U2 (U1 (Z16 (Z8 (Z2 (Z1 ([]))))))))))) mN QS (args ++ List.replicate (Try.f141.ntmps - args.length) (.d .undef)) h (kFin env.P h.length false [.tmp 6]) :=
 a8 (mode := 1) (by kernel_rfl) Try.func141 (by kernel_rfl) (by kernel_rfl) M9 (by kernel_rfl) (by kernel_rfl)
noncomputable def BP : SC := cO Try.f141 0
theorem AV : aO env call L nf thaw live (mN 0) m (n + 1) s h k = aN env call L nf thaw live mN BP s h (cJ env call L nf thaw live (mN 0) m n k) :=
 aS M9 (by kernel_rfl)
noncomputable def zV : SC := cO Try.f141 1
theorem BS : aO env call L nf thaw live (mN 1) m (n + 1) s h k = aN env call L nf thaw live mN zV s h (cJ env call L nf thaw live (mN 1) m n k) :=
 aS M9 (by kernel_rfl)
noncomputable def sC : SC := bN Try.f142
noncomputable def lE : Nat → Code := lpOf Try.f142
theorem GY : aP (a6 Try.f142) = true := by kernel_rfl
theorem wG : aA env L (n + 1) 142 args h = aN env (aA env L n) L h.length [0,0,0,0,0,0,0,0,0,0,2] (U2 (Z1 (U2 (U1 (Z2 (Z1 (U2 (U1 (Z2 (U2 (U1 (Z32 (Z1 ([])))))))))))))) lE sC (args ++ List.replicate (Try.f142.ntmps - args.length) (.d .undef)) h (kFin env.P h.length false [.tmp 9]) :=
 a8 (mode := 0) (by kernel_rfl) Try.func142 (by kernel_rfl) (by kernel_rfl) GY (by kernel_rfl) (by kernel_rfl)
noncomputable def dV : SC := cO Try.f142 0
theorem dN : aO env call L nf thaw live (lE 0) m (n + 1) s h k = aN env call L nf thaw live lE dV s h (cJ env call L nf thaw live (lE 0) m n k) :=
 aS GY (by kernel_rfl)
noncomputable def TR : SC := bN Try.f143
noncomputable def sE : Nat → Code := lpOf Try.f143
theorem RO : aP (a6 Try.f143) = true := by kernel_rfl
theorem aFz : aA env L (n + 1) 143 args h = aN env (aA env L n) L h.length [0,0,0,2] (U1 (Z1 (U2 (U1 (Z16 (Z8 (Z2 (Z1 ([]))))))))) sE TR (args ++ List.replicate (Try.f143.ntmps - args.length) (.d .undef)) h (kFin env.P h.length false [.tmp 2]) :=
 a8 (mode := 1) (by kernel_rfl) Try.func143 (by kernel_rfl) (by kernel_rfl) RO (by kernel_rfl) (by kernel_rfl)
noncomputable def DD : SC := cO Try.f143 0
theorem GM : aO env call L nf thaw live (sE 0) m (n + 1) s h k = aN env call L nf thaw live sE DD s h (cJ env call L nf thaw live (sE 0) m n k) :=
 aS RO (by kernel_rfl)
noncomputable def RG : SC := bN Try.f152
noncomputable def aDu : Nat → Code := lpOf Try.f152
theorem aDJ : aP (a6 Try.f152) = true := by kernel_rfl
theorem aDj : aA env L (n + 1) 152 args h = aN env (aA env L n) L h.length [] (Z2 (U2 (Z4 (U4 (Z32 (Z32 (Z2 (Z1 ([]))))))))) aDu RG (args ++ List.replicate (Try.f152.ntmps - args.length) (.d .undef)) h (kFin env.P h.length false [.tmp 8]) :=
 a8 (mode := 2) (by kernel_rfl) Try.func152 (by kernel_rfl) (by kernel_rfl) aDJ (by kernel_rfl) (by kernel_rfl)
end
end Ev
end Go.Proofs.Ytppdfjdfjfoddaa
