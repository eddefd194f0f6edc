/-
  Each function's code as an equation. Written by a program.
-/
import Derived.Test.YtppdfjdfjfoddaaEnv
set_option maxRecDepth 100000
namespace Go.Proofs.Ytppdfjdfjfoddaa
namespace Ev
section
variable {R : Type} {call : xq} {L nf n : Nat} {thaw : List Nat} {live m : List Bool} {s args : List A} {h : H} {k : Exit → List A → H → Option R}
noncomputable def xcv : SC := x1h Try.f5
noncomputable def x7r : Nat → Code := lpOf Try.f5
theorem xox : xi (xu Try.f5) = true := by kernel_rfl
theorem xfj : x2 env L (n + 1) 5 args h = xf env (x2 env L n) L h.length [] (Z2 (U4 (Z32 (Z8 (Z4 (Z2 (Z1 ([])))))))) x7r xcv (args ++ List.replicate (Try.f5.ntmps - args.length) (.d .undef)) h (kFin env.P h.length false [.tmp 2]) :=
 x13 (mode := 1) (by kernel_rfl) Try.func5 (by kernel_rfl) (by kernel_rfl) xox (by kernel_rfl) (by kernel_rfl)
noncomputable def xbm : SC := x2c Try.f5 0
theorem xcg : xg env call L nf thaw live (x7r 0) m (n + 1) s h k = xf env call L nf thaw live x7r xbm s h (x2d env call L nf thaw live (x7r 0) m n k) :=
 xl xox (by kernel_rfl)
noncomputable def x6j : SC := x1h Try.f15
noncomputable def x41 : Nat → Code := lpOf Try.f15
theorem xf5 : xi (xu Try.f15) = true := by kernel_rfl
theorem x7e : x2 env L (n + 1) 15 args h = xf env (x2 env L n) L h.length [] (Z1 (U2 (U1 (Z32 (Z2 (U2 (U1 (Z4 (Z2 (Z1 (U2 (U1 (Z8 (Z4 (Z2 ([])))))))))))))))) x41 x6j (args ++ List.replicate (Try.f15.ntmps - args.length) (.d .undef)) h (kFin env.P h.length false [.tmp 2]) :=
 x13 (mode := 1) (by kernel_rfl) Try.func15 (by kernel_rfl) (by kernel_rfl) xf5 (by kernel_rfl) (by kernel_rfl)
noncomputable def x8o : SC := x2c Try.f15 0
theorem x98 : xg env call L nf thaw live (x41 0) m (n + 1) s h k = xf env call L nf thaw live x41 x8o s h (x2d env call L nf thaw live (x41 0) m n k) :=
 xl xf5 (by kernel_rfl)
noncomputable def x8e : SC := x2c Try.f15 1
theorem x99 : xg env call L nf thaw live (x41 1) m (n + 1) s h k = xf env call L nf thaw live x41 x8e s h (x2d env call L nf thaw live (x41 1) m n k) :=
 xl xf5 (by kernel_rfl)
noncomputable def xf3 : SC := x1h Try.f17
noncomputable def x3r : Nat → Code := lpOf Try.f17
theorem xe2 : xi (xu Try.f17) = true := by kernel_rfl
theorem xlk : x2 env L (n + 1) 17 args h = xf env (x2 env L n) L h.length [] (Z1 (U4 (U1 (Z32 (Z8 (Z1 ([]))))))) x3r xf3 (args ++ List.replicate (Try.f17.ntmps - args.length) (.d .undef)) h (kFin env.P h.length false [.tmp 2]) :=
 x13 (mode := 2) (by kernel_rfl) Try.func17 (by kernel_rfl) (by kernel_rfl) xe2 (by kernel_rfl) (by kernel_rfl)
noncomputable def xdi : SC := x2c Try.f17 0
theorem xfq : xg env call L nf thaw live (x3r 0) m (n + 1) s h k = xf env call L nf thaw live x3r xdi s h (x2d env call L nf thaw live (x3r 0) m n k) :=
 xl xe2 (by kernel_rfl)
noncomputable def x7x : SC := x2c Try.f17 1
theorem x8i : xg env call L nf thaw live (x3r 1) m (n + 1) s h k = xf env call L nf thaw live x3r x7x s h (x2d env call L nf thaw live (x3r 1) m n k) :=
 xl xe2 (by kernel_rfl)
noncomputable def xf4 : SC := x1h Try.f19
noncomputable def x3q : Nat → Code := lpOf Try.f19
theorem xdt : xi (xu Try.f19) = true := by kernel_rfl
theorem xmi : x2 env L (n + 1) 19 args h = xf env (x2 env L n) L h.length [] (Z1 (U4 (U1 (Z8 (U2 (Z16 (Z8 (Z4 (Z2 (Z1 ([]))))))))))) x3q xf4 (args ++ List.replicate (Try.f19.ntmps - args.length) (.d .undef)) h (kFin env.P h.length true [.tmp 2]) :=
 x13 (mode := 3) (by kernel_rfl) Try.func19 (by kernel_rfl) (by kernel_rfl) xdt (by kernel_rfl) (by kernel_rfl)
noncomputable def xdj : SC := x2c Try.f19 0
theorem xfm : xg env call L nf thaw live (x3q 0) m (n + 1) s h k = xf env call L nf thaw live x3q xdj s h (x2d env call L nf thaw live (x3q 0) m n k) :=
 xl xdt (by kernel_rfl)
noncomputable def x81 : SC := x2c Try.f19 1
theorem x8k : xg env call L nf thaw live (x3q 1) m (n + 1) s h k = xf env call L nf thaw live x3q x81 s h (x2d env call L nf thaw live (x3q 1) m n k) :=
 xl xdt (by kernel_rfl)
noncomputable def xhe : SC := x1h Try.f25
noncomputable def xsz : Nat → Code := lpOf Try.f25
theorem xsq : xi (xu Try.f25) = true := by kernel_rfl
theorem xtn : x2 env L (n + 1) 25 args h = xf env (x2 env L n) L h.length [] ([]) xsz xhe (args ++ List.replicate (Try.f25.ntmps - args.length) (.d .undef)) h (kFin env.P h.length false Try.f25.results.toList) :=
 x13 (mode := 2) (by kernel_rfl) Try.func25 (by kernel_rfl) (by kernel_rfl) xsq (by kernel_rfl) (by kernel_rfl)
noncomputable def x17h : SC := x1h Try.f26
noncomputable def xgc : Nat → Code := lpOf Try.f26
theorem x144 : xi (xu Try.f26) = true := by kernel_rfl
theorem x1j5 : x2 env L (n + 1) 26 args h = xf env (x2 env L n) L h.length [] (U2 (Z2 (U2 (Z16 (Z4 ([])))))) xgc x17h (args ++ List.replicate (Try.f26.ntmps - args.length) (.d .undef)) h (kFin env.P h.length false [.tmp 4]) :=
 x13 (mode := 1) (by kernel_rfl) Try.func26 (by kernel_rfl) (by kernel_rfl) x144 (by kernel_rfl) (by kernel_rfl)
noncomputable def xqj : SC := x2c Try.f26 0
theorem xu8 : xg env call L nf thaw live (xgc 0) m (n + 1) s h k = xf env call L nf thaw live xgc xqj s h (x2d env call L nf thaw live (xgc 0) m n k) :=
 xl x144 (by kernel_rfl)
noncomputable def xwq : SC := x1h Try.f27
noncomputable def xfh : Nat → Code := lpOf Try.f27
theorem x135 : xi (xu Try.f27) = true := by kernel_rfl
theorem x134 : x2 env L (n + 1) 27 args h = xf env (x2 env L n) L h.length [] (U2 (Z2 (U2 (Z8 (Z4 ([])))))) xfh xwq (args ++ List.replicate (Try.f27.ntmps - args.length) (.d .undef)) h (kFin env.P h.length false [.tmp 4]) :=
 x13 (mode := 1) (by kernel_rfl) Try.func27 (by kernel_rfl) (by kernel_rfl) x135 (by kernel_rfl) (by kernel_rfl)
noncomputable def xj0 : SC := x2c Try.f27 0
theorem xjk : xg env call L nf thaw live (xfh 0) m (n + 1) s h k = xf env call L nf thaw live xfh xj0 s h (x2d env call L nf thaw live (xfh 0) m n k) :=
 xl x135 (by kernel_rfl)
noncomputable def xdk : SC := x1h Try.f28
noncomputable def xc9 : Nat → Code := lpOf Try.f28
theorem xvf : xi (xu Try.f28) = true := by kernel_rfl
theorem xf9 : x2 env L (n + 1) 28 args h = xf env (x2 env L n) L h.length [] (U2 (Z2 (U1 (Z8 (Z2 (U2 (Z8 (Z1 ([]))))))))) xc9 xdk (args ++ List.replicate (Try.f28.ntmps - args.length) (.d .undef)) h (kFin env.P h.length false [.tmp 4]) :=
 x13 (mode := 1) (by kernel_rfl) Try.func28 (by kernel_rfl) (by kernel_rfl) xvf (by kernel_rfl) (by kernel_rfl)
noncomputable def xe5 : SC := x2c Try.f28 0
theorem xf0 : xg env call L nf thaw live (xc9 0) m (n + 1) s h k = xf env call L nf thaw live xc9 xe5 s h (x2d env call L nf thaw live (xc9 0) m n k) :=
 xl xvf (by kernel_rfl)
noncomputable def xwx : SC := x1h Try.f32
noncomputable def x1ks : Nat → Code := lpOf Try.f32
theorem x1kn : xi (xu Try.f32) = true := by kernel_rfl
theorem x13l : x2 env L (n + 1) 32 args h = xf env (x2 env L n) L h.length [] ([]) x1ks xwx (args ++ List.replicate (Try.f32.ntmps - args.length) (.d .undef)) h (kFin env.P h.length true [.tmp 2]) :=
 x13 (mode := 2) (by kernel_rfl) Try.func32 (by kernel_rfl) (by kernel_rfl) x1kn (by kernel_rfl) (by kernel_rfl)
noncomputable def x15u : SC := x1h Try.f36
noncomputable def x53 : Nat → Code := lpOf Try.f36
theorem xm7 : xi (xu Try.f36) = true := by kernel_rfl
theorem x1jk : x2 env L (n + 1) 36 args h = xf env (x2 env L n) L h.length [] (Z2 (U4 (U1 (Z8 (Z2 (Z1 (U2 (U1 (Z4 (U1 (Z8 (Z1 (U2 (U1 (Z16 ([])))))))))))))))) x53 x15u (args ++ List.replicate (Try.f36.ntmps - args.length) (.d .undef)) h (kFin env.P h.length false [.tmp 2]) :=
 x13 (mode := 2) (by kernel_rfl) Try.func36 (by kernel_rfl) (by kernel_rfl) xm7 (by kernel_rfl) (by kernel_rfl)
noncomputable def xqb : SC := x2c Try.f36 0
theorem xua : xg env call L nf thaw live (x53 0) m (n + 1) s h k = xf env call L nf thaw live x53 xqb s h (x2d env call L nf thaw live (x53 0) m n k) :=
 xl xm7 (by kernel_rfl)
noncomputable def xqi : SC := x2c Try.f36 1
theorem xu2 : xg env call L nf thaw live (x53 1) m (n + 1) s h k = xf env call L nf thaw live x53 xqi s h (x2d env call L nf thaw live (x53 1) m n k) :=
 xl xm7 (by kernel_rfl)
noncomputable def xq4 : SC := x2c Try.f36 2
theorem xuj : xg env call L nf thaw live (x53 2) m (n + 1) s h k = xf env call L nf thaw live x53 xq4 s h (x2d env call L nf thaw live (x53 2) m n k) :=
 xl xm7 (by kernel_rfl)
noncomputable def x10v : SC := x1h Try.f39
noncomputable def xb7 : Nat → Code := lpOf Try.f39
theorem xxo : xi (xu Try.f39) = true := by kernel_rfl
theorem x1cy : x2 env L (n + 1) 39 args h = xf env (x2 env L n) L h.length [0,0,0,2] (U1 (Z1 (U2 (Z1 (U1 (Z8 (Z2 (Z1 ([]))))))))) xb7 x10v (args ++ List.replicate (Try.f39.ntmps - args.length) (.d .undef)) h (kFin env.P h.length false [.tmp 2]) :=
 x13 (mode := 2) (by kernel_rfl) Try.func39 (by kernel_rfl) (by kernel_rfl) xxo (by kernel_rfl) (by kernel_rfl)
noncomputable def xfa : SC := x2c Try.f39 0
theorem xgf : xg env call L nf thaw live (xb7 0) m (n + 1) s h k = xf env call L nf thaw live xb7 xfa s h (x2d env call L nf thaw live (xb7 0) m n k) :=
 xl xxo (by kernel_rfl)
noncomputable def x6g : SC := x1h Try.f41
noncomputable def x9j : Nat → Code := lpOf Try.f41
theorem xnd : xi (xu Try.f41) = true := by kernel_rfl
theorem x7f : x2 env L (n + 1) 41 args h = xf env (x2 env L n) L h.length [] (Z1 (U4 (Z32 (Z4 (Z2 (Z1 ([]))))))) x9j x6g (args ++ List.replicate (Try.f41.ntmps - args.length) (.d .undef)) h (kFin env.P h.length false [.tmp 2]) :=
 x13 (mode := 1) (by kernel_rfl) Try.func41 (by kernel_rfl) (by kernel_rfl) xnd (by kernel_rfl) (by kernel_rfl)
noncomputable def xat : SC := x2c Try.f41 0
theorem xbt : xg env call L nf thaw live (x9j 0) m (n + 1) s h k = xf env call L nf thaw live x9j xat s h (x2d env call L nf thaw live (x9j 0) m n k) :=
 xl xnd (by kernel_rfl)
noncomputable def x10j : SC := x1h Try.f44
noncomputable def xda : Nat → Code := lpOf Try.f44
theorem xx8 : xi (xu Try.f44) = true := by kernel_rfl
theorem x1dl : x2 env L (n + 1) 44 args h = xf env (x2 env L n) L h.length [] (U1 (Z1 (U2 (U1 (Z8 (Z4 (Z1 ([])))))))) xda x10j (args ++ List.replicate (Try.f44.ntmps - args.length) (.d .undef)) h (kFin env.P h.length false [.tmp 2]) :=
 x13 (mode := 2) (by kernel_rfl) Try.func44 (by kernel_rfl) (by kernel_rfl) xx8 (by kernel_rfl) (by kernel_rfl)
noncomputable def xf8 : SC := x2c Try.f44 0
theorem xfo : xg env call L nf thaw live (xda 0) m (n + 1) s h k = xf env call L nf thaw live xda xf8 s h (x2d env call L nf thaw live (xda 0) m n k) :=
 xl xx8 (by kernel_rfl)
noncomputable def x18n : SC := x1h Try.f45
noncomputable def x1pl : Nat → Code := lpOf Try.f45
theorem x1sc : xi (xu Try.f45) = true := by kernel_rfl
theorem x1fi : x2 env L (n + 1) 45 args h = xf env (x2 env L n) L h.length [] ([]) x1pl x18n (args ++ List.replicate (Try.f45.ntmps - args.length) (.d .undef)) h (kFin env.P h.length false [.tmp 6]) :=
 x13 (mode := 1) (by kernel_rfl) Try.func45 (by kernel_rfl) (by kernel_rfl) x1sc (by kernel_rfl) (by kernel_rfl)
noncomputable def xx6 : SC := x1h Try.f49
noncomputable def x1cm : Nat → Code := lpOf Try.f49
theorem x1bj : xi (xu Try.f49) = true := by kernel_rfl
theorem x19x : x2 env L (n + 1) 49 args h = xf env (x2 env L n) L h.length [] ([]) x1cm xx6 (args ++ List.replicate (Try.f49.ntmps - args.length) (.d .undef)) h (kFin env.P h.length false [.tmp 2]) :=
 x13 (mode := 1) (by kernel_rfl) Try.func49 (by kernel_rfl) (by kernel_rfl) x1bj (by kernel_rfl) (by kernel_rfl)
noncomputable def xxl : SC := x1h Try.f50
noncomputable def x1a6 : Nat → Code := lpOf Try.f50
theorem x1ad : xi (xu Try.f50) = true := by kernel_rfl
theorem x1c3 : x2 env L (n + 1) 50 args h = xf env (x2 env L n) L h.length [] ([]) x1a6 xxl (args ++ List.replicate (Try.f50.ntmps - args.length) (.d .undef)) h (kFin env.P h.length false [.tmp 2]) :=
 x13 (mode := 1) (by kernel_rfl) Try.func50 (by kernel_rfl) (by kernel_rfl) x1ad (by kernel_rfl) (by kernel_rfl)
noncomputable def xef : SC := x1h Try.f51
noncomputable def x43 : Nat → Code := lpOf Try.f51
theorem xdn : xi (xu Try.f51) = true := by kernel_rfl
theorem xpb : x2 env L (n + 1) 51 args h = xf env (x2 env L n) L h.length [] (U1 (Z1 (U2 (Z16 (Z8 ([])))))) x43 xef (args ++ List.replicate (Try.f51.ntmps - args.length) (.d .undef)) h (kFin env.P h.length false []) :=
 x13 (mode := 0) (by kernel_rfl) Try.func51 (by kernel_rfl) (by kernel_rfl) xdn (by kernel_rfl) (by kernel_rfl)
noncomputable def x6w : SC := x2c Try.f51 0
theorem x84 : xg env call L nf thaw live (x43 0) m (n + 1) s h k = xf env call L nf thaw live x43 x6w s h (x2d env call L nf thaw live (x43 0) m n k) :=
 xl xdn (by kernel_rfl)
noncomputable def x14v : SC := x1h Try.f52
noncomputable def x1h4 : Nat → Code := lpOf Try.f52
theorem x1h9 : xi (xu Try.f52) = true := by kernel_rfl
theorem x1gx : x2 env L (n + 1) 52 args h = xf env (x2 env L n) L h.length [] ([]) x1h4 x14v (args ++ List.replicate (Try.f52.ntmps - args.length) (.d .undef)) h (kFin env.P h.length false [.tmp 4]) :=
 x13 (mode := 1) (by kernel_rfl) Try.func52 (by kernel_rfl) (by kernel_rfl) x1h9 (by kernel_rfl) (by kernel_rfl)
noncomputable def xc0 : SC := x1h Try.f56
noncomputable def x186 : Nat → Code := lpOf Try.f56
theorem x18u : xi (xu Try.f56) = true := by kernel_rfl
theorem xed : x2 env L (n + 1) 56 args h = xf env (x2 env L n) L h.length [] ([]) x186 xc0 (args ++ List.replicate (Try.f56.ntmps - args.length) (.d .undef)) h (kFin env.P h.length false [.tmp 6,.tmp 7]) :=
 x13 (mode := 1) (by kernel_rfl) Try.func56 (by kernel_rfl) (by kernel_rfl) x18u (by kernel_rfl) (by kernel_rfl)
noncomputable def x121 : SC := x1h Try.f57
noncomputable def xkw : Nat → Code := lpOf Try.f57
theorem x1a0 : xi (xu Try.f57) = true := by kernel_rfl
theorem x1af : x2 env L (n + 1) 57 args h = xf env (x2 env L n) L h.length [] (U2 (Z2 (U2 (Z8 (Z4 ([])))))) xkw x121 (args ++ List.replicate (Try.f57.ntmps - args.length) (.d .undef)) h (kFin env.P h.length false [.tmp 4]) :=
 x13 (mode := 1) (by kernel_rfl) Try.func57 (by kernel_rfl) (by kernel_rfl) x1a0 (by kernel_rfl) (by kernel_rfl)
noncomputable def xon : SC := x2c Try.f57 0
theorem xnt : xg env call L nf thaw live (xkw 0) m (n + 1) s h k = xf env call L nf thaw live xkw xon s h (x2d env call L nf thaw live (xkw 0) m n k) :=
 xl x1a0 (by kernel_rfl)
noncomputable def x8q : SC := x1h Try.f60
noncomputable def x18p : Nat → Code := lpOf Try.f60
theorem x185 : xi (xu Try.f60) = true := by kernel_rfl
theorem x9n : x2 env L (n + 1) 60 args h = xf env (x2 env L n) L h.length [] ([]) x18p x8q (args ++ List.replicate (Try.f60.ntmps - args.length) (.d .undef)) h (kFin env.P h.length false [.tmp 6,.tmp 7]) :=
 x13 (mode := 1) (by kernel_rfl) Try.func60 (by kernel_rfl) (by kernel_rfl) x185 (by kernel_rfl) (by kernel_rfl)
noncomputable def xbq : SC := x1h Try.f61
noncomputable def xjj : Nat → Code := lpOf Try.f61
theorem xjd : xi (xu Try.f61) = true := by kernel_rfl
theorem xjg : x2 env L (n + 1) 61 args h = xf env (x2 env L n) L h.length [] ([]) xjj xbq (args ++ List.replicate (Try.f61.ntmps - args.length) (.d .undef)) h (kFin env.P h.length false [.tmp 4]) :=
 x13 (mode := 1) (by kernel_rfl) Try.func61 (by kernel_rfl) (by kernel_rfl) xjd (by kernel_rfl) (by kernel_rfl)
noncomputable def xpi : SC := x1h Try.f67
noncomputable def xky : Nat → Code := lpOf Try.f67
theorem x1ck : xi (xu Try.f67) = true := by kernel_rfl
theorem xrn : x2 env L (n + 1) 67 args h = xf env (x2 env L n) L h.length [] (U1 (Z1 (U2 (U1 (Z16 (Z4 (Z2 (Z1 ([]))))))))) xky xpi (args ++ List.replicate (Try.f67.ntmps - args.length) (.d .undef)) h (kFin env.P h.length false Try.f67.results.toList) :=
 x13 (mode := 0) (by kernel_rfl) Try.func67 (by kernel_rfl) (by kernel_rfl) x1ck (by kernel_rfl) (by kernel_rfl)
noncomputable def xx0 : SC := x2c Try.f67 0
theorem xxn : xg env call L nf thaw live (xky 0) m (n + 1) s h k = xf env call L nf thaw live xky xx0 s h (x2d env call L nf thaw live (xky 0) m n k) :=
 xl x1ck (by kernel_rfl)
noncomputable def x1nd : SC := x1h Try.f68
noncomputable def x1uw : Nat → Code := lpOf Try.f68
theorem x1v2 : xi (xu Try.f68) = true := by kernel_rfl
theorem x1v8 : x2 env L (n + 1) 68 args h = xf env (x2 env L n) L h.length [] ([]) x1uw x1nd (args ++ List.replicate (Try.f68.ntmps - args.length) (.d .undef)) h (kFin env.P h.length false [.tmp 4]) :=
 x13 (mode := 1) (by kernel_rfl) Try.func68 (by kernel_rfl) (by kernel_rfl) x1v2 (by kernel_rfl) (by kernel_rfl)
noncomputable def xdh : SC := x1h Try.f74
noncomputable def x1ch : Nat → Code := lpOf Try.f74
theorem x1br : xi (xu Try.f74) = true := by kernel_rfl
theorem xfb : x2 env L (n + 1) 74 args h = xf env (x2 env L n) L h.length [] ([]) x1ch xdh (args ++ List.replicate (Try.f74.ntmps - args.length) (.d .undef)) h (kFin env.P h.length false [.tmp 4]) :=
 x13 (mode := 0) (by kernel_rfl) Try.func74 (by kernel_rfl) (by kernel_rfl) x1br (by kernel_rfl) (by kernel_rfl)
noncomputable def x1gc : SC := x1h Try.f75
noncomputable def xgs : Nat → Code := lpOf Try.f75
theorem x1bf : xi (xu Try.f75) = true := by kernel_rfl
theorem x1o8 : x2 env L (n + 1) 75 args h = xf env (x2 env L n) L h.length [] (U1 (Z1 (U2 (U1 (Z16 (Z8 (Z4 (Z2 (Z1 ([])))))))))) xgs x1gc (args ++ List.replicate (Try.f75.ntmps - args.length) (.d .undef)) h (kFin env.P h.length false Try.f75.results.toList) :=
 x13 (mode := 0) (by kernel_rfl) Try.func75 (by kernel_rfl) (by kernel_rfl) x1bf (by kernel_rfl) (by kernel_rfl)
noncomputable def xoi : SC := x2c Try.f75 0
theorem xnw : xg env call L nf thaw live (xgs 0) m (n + 1) s h k = xf env call L nf thaw live xgs xoi s h (x2d env call L nf thaw live (xgs 0) m n k) :=
 xl x1bf (by kernel_rfl)
noncomputable def x9u : SC := x1h Try.f76
noncomputable def xgd : Nat → Code := lpOf Try.f76
theorem x13a : xi (xu Try.f76) = true := by kernel_rfl
theorem xa1 : x2 env L (n + 1) 76 args h = xf env (x2 env L n) L h.length [0,0,0,0,0,0,0,0,0,0,0,0,0,0,0,0,0,0,0,0,0,0,0,0,0,0,0,0,0,0,0,0,0,0,0,0,0,0,0,0,0,0,0,0,0,0,0,0,0,0,0,0,0,0,0,0,0,0,0,0,0,0,0,0,0,0,0,0,0,0,0,0,0,0,0,0,0,0,0,0,0,0,0,1002,0,0,0,0,0,0,0,0,0,0,0,0,0,0,0,0,0,0,0,0,0,1002] (Z4 (U2 (U1 (Z32 (Z32 (Z32 (Z8 (Z2 (Z1 ([])))))))))) xgd x9u (args ++ List.replicate (Try.f76.ntmps - args.length) (.d .undef)) h (kFin env.P h.length false Try.f76.results.toList) :=
 x13 (mode := 0) (by kernel_rfl) Try.func76 (by kernel_rfl) (by kernel_rfl) x13a (by kernel_rfl) (by kernel_rfl)
noncomputable def xqa : SC := x2c Try.f76 0
theorem xtl : xg env call L nf thaw live (xgd 0) m (n + 1) s h k = xf env call L nf thaw live xgd xqa s h (x2d env call L nf thaw live (xgd 0) m n k) :=
 xl x13a (by kernel_rfl)
noncomputable def xzq : SC := x1h Try.f77
noncomputable def x1lp : Nat → Code := lpOf Try.f77
theorem x1m5 : xi (xu Try.f77) = true := by kernel_rfl
theorem x16j : x2 env L (n + 1) 77 args h = xf env (x2 env L n) L h.length [] ([]) x1lp xzq (args ++ List.replicate (Try.f77.ntmps - args.length) (.d .undef)) h (kFin env.P h.length false Try.f77.results.toList) :=
 x13 (mode := 0) (by kernel_rfl) Try.func77 (by kernel_rfl) (by kernel_rfl) x1m5 (by kernel_rfl) (by kernel_rfl)
noncomputable def x10b : SC := x1h Try.f78
noncomputable def x1dk : Nat → Code := lpOf Try.f78
theorem x1dj : xi (xu Try.f78) = true := by kernel_rfl
theorem x1dg : x2 env L (n + 1) 78 args h = xf env (x2 env L n) L h.length [] ([]) x1dk x10b (args ++ List.replicate (Try.f78.ntmps - args.length) (.d .undef)) h (kFin env.P h.length false [.tmp 4]) :=
 x13 (mode := 0) (by kernel_rfl) Try.func78 (by kernel_rfl) (by kernel_rfl) x1dj (by kernel_rfl) (by kernel_rfl)
noncomputable def xxz : SC := x1h Try.f79
noncomputable def x1a5 : Nat → Code := lpOf Try.f79
theorem x1bh : xi (xu Try.f79) = true := by kernel_rfl
theorem x1a1 : x2 env L (n + 1) 79 args h = xf env (x2 env L n) L h.length [] ([]) x1a5 xxz (args ++ List.replicate (Try.f79.ntmps - args.length) (.d .undef)) h (kFin env.P h.length false [.tmp 2]) :=
 x13 (mode := 1) (by kernel_rfl) Try.func79 (by kernel_rfl) (by kernel_rfl) x1bh (by kernel_rfl) (by kernel_rfl)
noncomputable def xwj : SC := x1h Try.f80
noncomputable def xl8 : Nat → Code := lpOf Try.f80
theorem x19u : xi (xu Try.f80) = true := by kernel_rfl
theorem xzn : x2 env L (n + 1) 80 args h = xf env (x2 env L n) L h.length [] (U1 (Z1 (U1 (Z2 (Z1 (U2 (Z16 (Z4 (Z2 (Z1 ([]))))))))))) xl8 xwj (args ++ List.replicate (Try.f80.ntmps - args.length) (.d .undef)) h (kFin env.P h.length false [.tmp 6]) :=
 x13 (mode := 1) (by kernel_rfl) Try.func80 (by kernel_rfl) (by kernel_rfl) x19u (by kernel_rfl) (by kernel_rfl)
noncomputable def xi6 : SC := x2c Try.f80 0
theorem xgt : xg env call L nf thaw live (xl8 0) m (n + 1) s h k = xf env call L nf thaw live xl8 xi6 s h (x2d env call L nf thaw live (xl8 0) m n k) :=
 xl x19u (by kernel_rfl)
noncomputable def x1ff : SC := x1h Try.f81
noncomputable def x1of : Nat → Code := lpOf Try.f81
theorem x1nz : xi (xu Try.f81) = true := by kernel_rfl
theorem x1oy : x2 env L (n + 1) 81 args h = xf env (x2 env L n) L h.length [] ([]) x1of x1ff (args ++ List.replicate (Try.f81.ntmps - args.length) (.d .undef)) h (kFin env.P h.length false [.tmp 4]) :=
 x13 (mode := 1) (by kernel_rfl) Try.func81 (by kernel_rfl) (by kernel_rfl) x1nz (by kernel_rfl) (by kernel_rfl)
noncomputable def x17s : SC := x1h Try.f83
noncomputable def xg9 : Nat → Code := lpOf Try.f83
theorem x13c : xi (xu Try.f83) = true := by kernel_rfl
theorem x1hx : x2 env L (n + 1) 83 args h = xf env (x2 env L n) L h.length [] (U2 (Z2 (U2 (U1 (Z8 (Z2 (Z1 ([])))))))) xg9 x17s (args ++ List.replicate (Try.f83.ntmps - args.length) (.d .undef)) h (kFin env.P h.length false [.tmp 4]) :=
 x13 (mode := 1) (by kernel_rfl) Try.func83 (by kernel_rfl) (by kernel_rfl) x13c (by kernel_rfl) (by kernel_rfl)
noncomputable def xja : SC := x2c Try.f83 0
theorem xju : xg env call L nf thaw live (xg9 0) m (n + 1) s h k = xf env call L nf thaw live xg9 xja s h (x2d env call L nf thaw live (xg9 0) m n k) :=
 xl x13c (by kernel_rfl)
noncomputable def xoe : SC := x1h Try.f85
noncomputable def x1k4 : Nat → Code := lpOf Try.f85
theorem x1ka : xi (xu Try.f85) = true := by kernel_rfl
theorem xug : x2 env L (n + 1) 85 args h = xf env (x2 env L n) L h.length [] ([]) x1k4 xoe (args ++ List.replicate (Try.f85.ntmps - args.length) (.d .undef)) h (kFin env.P h.length false [.tmp 4]) :=
 x13 (mode := 1) (by kernel_rfl) Try.func85 (by kernel_rfl) (by kernel_rfl) x1ka (by kernel_rfl) (by kernel_rfl)
noncomputable def xol : SC := x1h Try.f86
noncomputable def x31 : Nat → Code := lpOf Try.f86
theorem xfn : xi (xu Try.f86) = true := by kernel_rfl
theorem xtv : x2 env L (n + 1) 86 args h = xf env (x2 env L n) L h.length [] (Z1 (U8 (U4 (U2 (U1 (Z32 (Z32 (Z16 (Z8 (Z2 (Z1 ([])))))))))))) x31 xol (args ++ List.replicate (Try.f86.ntmps - args.length) (.d .undef)) h (kFin env.P h.length false [.tmp 2,.tmp 3]) :=
 x13 (mode := 1) (by kernel_rfl) Try.func86 (by kernel_rfl) (by kernel_rfl) xfn (by kernel_rfl) (by kernel_rfl)
noncomputable def xq2 : SC := x2c Try.f86 0
theorem xtb : xg env call L nf thaw live (x31 0) m (n + 1) s h k = xf env call L nf thaw live x31 xq2 s h (x2d env call L nf thaw live (x31 0) m n k) :=
 xl xfn (by kernel_rfl)
noncomputable def xj1 : SC := x2c Try.f86 1
theorem xjr : xg env call L nf thaw live (x31 1) m (n + 1) s h k = xf env call L nf thaw live x31 xj1 s h (x2d env call L nf thaw live (x31 1) m n k) :=
 xl xfn (by kernel_rfl)
noncomputable def xeo : SC := x2c Try.f86 2
theorem xe7 : xg env call L nf thaw live (x31 2) m (n + 1) s h k = xf env call L nf thaw live x31 xeo s h (x2d env call L nf thaw live (x31 2) m n k) :=
 xl xfn (by kernel_rfl)
noncomputable def xeg : SC := x2c Try.f86 3
theorem xdv : xg env call L nf thaw live (x31 3) m (n + 1) s h k = xf env call L nf thaw live x31 xeg s h (x2d env call L nf thaw live (x31 3) m n k) :=
 xl xfn (by kernel_rfl)
noncomputable def xvx : SC := x1h Try.f88
noncomputable def x180 : Nat → Code := lpOf Try.f88
theorem x18i : xi (xu Try.f88) = true := by kernel_rfl
theorem x18r : x2 env L (n + 1) 88 args h = xf env (x2 env L n) L h.length [] ([]) x180 xvx (args ++ List.replicate (Try.f88.ntmps - args.length) (.d .undef)) h (kFin env.P h.length false [.tmp 10,.tmp 11]) :=
 x13 (mode := 1) (by kernel_rfl) Try.func88 (by kernel_rfl) (by kernel_rfl) x18i (by kernel_rfl) (by kernel_rfl)
noncomputable def xpo : SC := x1h Try.f89
noncomputable def x11q : Nat → Code := lpOf Try.f89
theorem x11o : xi (xu Try.f89) = true := by kernel_rfl
theorem x11h : x2 env L (n + 1) 89 args h = xf env (x2 env L n) L h.length [] ([]) x11q xpo (args ++ List.replicate (Try.f89.ntmps - args.length) (.d .undef)) h (kFin env.P h.length false [.tmp 4]) :=
 x13 (mode := 0) (by kernel_rfl) Try.func89 (by kernel_rfl) (by kernel_rfl) x11o (by kernel_rfl) (by kernel_rfl)
noncomputable def x9k : SC := x1h Try.f90
noncomputable def x4o : Nat → Code := lpOf Try.f90
theorem xcn : xi (xu Try.f90) = true := by kernel_rfl
theorem xcp : x2 env L (n + 1) 90 args h = xf env (x2 env L n) L h.length [] (U2 (Z2 (U1 (Z2 (U2 (Z8 (Z2 ([])))))))) x4o x9k (args ++ List.replicate (Try.f90.ntmps - args.length) (.d .undef)) h (kFin env.P h.length false [.tmp 4]) :=
 x13 (mode := 1) (by kernel_rfl) Try.func90 (by kernel_rfl) (by kernel_rfl) xcn (by kernel_rfl) (by kernel_rfl)
noncomputable def x65 : SC := x2c Try.f90 0
theorem x7h : xg env call L nf thaw live (x4o 0) m (n + 1) s h k = xf env call L nf thaw live x4o x65 s h (x2d env call L nf thaw live (x4o 0) m n k) :=
 xl xcn (by kernel_rfl)
noncomputable def x7g : SC := x1h Try.f93
noncomputable def x1h7 : Nat → Code := lpOf Try.f93
theorem x1gz : xi (xu Try.f93) = true := by kernel_rfl
theorem x7n : x2 env L (n + 1) 93 args h = xf env (x2 env L n) L h.length [0,0,0,0,0,0,0,0,0,0,0,0,0,0,0,0,0,0,0,0,0,0,0,0,0,0,0,0,0,0,0,0,0,0,0,0,0,0,0,0,0,0,0,0,0,0,0,0,0,0,0,0,0,0,0,0,0,0,0,0,0,0,0,0,0,0,0,0,0,0,0,0,0,0,0,0,0,0,0,0,0,0,0,0,0,0,0,0,0,0,0,0,0,1002] ([]) x1h7 x7g (args ++ List.replicate (Try.f93.ntmps - args.length) (.d .undef)) h (kFin env.P h.length false Try.f93.results.toList) :=
 x13 (mode := 0) (by kernel_rfl) Try.func93 (by kernel_rfl) (by kernel_rfl) x1gz (by kernel_rfl) (by kernel_rfl)
noncomputable def x1be : SC := x1h Try.f103
noncomputable def xch : Nat → Code := lpOf Try.f103
theorem x17q : xi (xu Try.f103) = true := by kernel_rfl
theorem x1m3 : x2 env L (n + 1) 103 args h = xf env (x2 env L n) L h.length [0,0,0,0,0,0,0,0,0,0,0,0,0,0,0,0,0,0,0,0,0,0,0,0,0,0,0,0,1002] (Z1 (U4 (Z16 (Z8 (Z2 (Z1 ([]))))))) xch x1be (args ++ List.replicate (Try.f103.ntmps - args.length) (.d .undef)) h (kFin env.P h.length true Try.f103.results.toList) :=
 x13 (mode := 2) (by kernel_rfl) Try.func103 (by kernel_rfl) (by kernel_rfl) x17q (by kernel_rfl) (by kernel_rfl)
noncomputable def xmg : SC := x2c Try.f103 0
theorem xme : xg env call L nf thaw live (xch 0) m (n + 1) s h k = xf env call L nf thaw live xch xmg s h (x2d env call L nf thaw live (xch 0) m n k) :=
 xl x17q (by kernel_rfl)
noncomputable def x14i : SC := x1h Try.f105
noncomputable def x1gv : Nat → Code := lpOf Try.f105
theorem x1h5 : xi (xu Try.f105) = true := by kernel_rfl
theorem x1h6 : x2 env L (n + 1) 105 args h = xf env (x2 env L n) L h.length [] ([]) x1gv x14i (args ++ List.replicate (Try.f105.ntmps - args.length) (.d .undef)) h (kFin env.P h.length false [.tmp 4]) :=
 x13 (mode := 0) (by kernel_rfl) Try.func105 (by kernel_rfl) (by kernel_rfl) x1h5 (by kernel_rfl) (by kernel_rfl)
noncomputable def xzg : SC := x1h Try.f107
noncomputable def x1ln : Nat → Code := lpOf Try.f107
theorem x1ku : xi (xu Try.f107) = true := by kernel_rfl
theorem x15v : x2 env L (n + 1) 107 args h = xf env (x2 env L n) L h.length [] ([]) x1ln xzg (args ++ List.replicate (Try.f107.ntmps - args.length) (.d .undef)) h (kFin env.P h.length false Try.f107.results.toList) :=
 x13 (mode := 0) (by kernel_rfl) Try.func107 (by kernel_rfl) (by kernel_rfl) x1ku (by kernel_rfl) (by kernel_rfl)
noncomputable def x17o : SC := x1h Try.f108
noncomputable def x8f : Nat → Code := lpOf Try.f108
theorem xso : xi (xu Try.f108) = true := by kernel_rfl
theorem x1jq : x2 env L (n + 1) 108 args h = xf env (x2 env L n) L h.length [] (Z1 (U4 (U1 (Z32 (Z2 (Z1 ([]))))))) x8f x17o (args ++ List.replicate (Try.f108.ntmps - args.length) (.d .undef)) h (kFin env.P h.length false [.tmp 2]) :=
 x13 (mode := 2) (by kernel_rfl) Try.func108 (by kernel_rfl) (by kernel_rfl) xso (by kernel_rfl) (by kernel_rfl)
noncomputable def xq9 : SC := x2c Try.f108 0
theorem xtw : xg env call L nf thaw live (x8f 0) m (n + 1) s h k = xf env call L nf thaw live x8f xq9 s h (x2d env call L nf thaw live (x8f 0) m n k) :=
 xl xso (by kernel_rfl)
noncomputable def xqh : SC := x2c Try.f108 1
theorem xt3 : xg env call L nf thaw live (x8f 1) m (n + 1) s h k = xf env call L nf thaw live x8f xqh s h (x2d env call L nf thaw live (x8f 1) m n k) :=
 xl xso (by kernel_rfl)
noncomputable def x17k : SC := x1h Try.f109
noncomputable def x8n : Nat → Code := lpOf Try.f109
theorem xtp : xi (xu Try.f109) = true := by kernel_rfl
theorem x1io : x2 env L (n + 1) 109 args h = xf env (x2 env L n) L h.length [] (Z1 (U2 (U1 (Z2 (U4 (U2 (U1 (Z32 (Z2 (Z1 ([]))))))))))) x8n x17k (args ++ List.replicate (Try.f109.ntmps - args.length) (.d .undef)) h (kFin env.P h.length false [.tmp 6]) :=
 x13 (mode := 2) (by kernel_rfl) Try.func109 (by kernel_rfl) (by kernel_rfl) xtp (by kernel_rfl) (by kernel_rfl)
noncomputable def xq8 : SC := x2c Try.f109 0
theorem xsi : xg env call L nf thaw live (x8n 0) m (n + 1) s h k = xf env call L nf thaw live x8n xq8 s h (x2d env call L nf thaw live (x8n 0) m n k) :=
 xl xtp (by kernel_rfl)
noncomputable def xqk : SC := x2c Try.f109 1
theorem xu1 : xg env call L nf thaw live (x8n 1) m (n + 1) s h k = xf env call L nf thaw live x8n xqk s h (x2d env call L nf thaw live (x8n 1) m n k) :=
 xl xtp (by kernel_rfl)
noncomputable def xer : SC := x1h Try.f110
noncomputable def x1hp : Nat → Code := lpOf Try.f110
theorem x1k9 : xi (xu Try.f110) = true := by kernel_rfl
theorem xg5 : x2 env L (n + 1) 110 args h = xf env (x2 env L n) L h.length [] (Z2 (U1 (Z2 (Z1 (U2 (Z32 (Z16 (Z8 ([]))))))))) x1hp xer (args ++ List.replicate (Try.f110.ntmps - args.length) (.d .undef)) h (kFin env.P h.length false [.tmp 6]) :=
 x13 (mode := 1) (by kernel_rfl) Try.func110 (by kernel_rfl) (by kernel_rfl) x1k9 (by kernel_rfl) (by kernel_rfl)
noncomputable def x13k : SC := x1h Try.f111
noncomputable def xen : Nat → Code := lpOf Try.f111
theorem x111 : xi (xu Try.f111) = true := by kernel_rfl
theorem x1gq : x2 env L (n + 1) 111 args h = xf env (x2 env L n) L h.length [] (U2 (Z2 (U2 (U1 (Z16 (Z8 (Z2 ([])))))))) xen x13k (args ++ List.replicate (Try.f111.ntmps - args.length) (.d .undef)) h (kFin env.P h.length false [.tmp 4]) :=
 x13 (mode := 2) (by kernel_rfl) Try.func111 (by kernel_rfl) (by kernel_rfl) x111 (by kernel_rfl) (by kernel_rfl)
noncomputable def xob : SC := x2c Try.f111 0
theorem xqo : xg env call L nf thaw live (xen 0) m (n + 1) s h k = xf env call L nf thaw live xen xob s h (x2d env call L nf thaw live (xen 0) m n k) :=
 xl x111 (by kernel_rfl)
noncomputable def x1b1 : SC := x1h Try.f112
noncomputable def x8c : Nat → Code := lpOf Try.f112
theorem xx4 : xi (xu Try.f112) = true := by kernel_rfl
theorem x1la : x2 env L (n + 1) 112 args h = xf env (x2 env L n) L h.length [] (U2 (Z2 (U2 (U1 (Z16 (Z8 (Z4 ([])))))))) x8c x1b1 (args ++ List.replicate (Try.f112.ntmps - args.length) (.d .undef)) h (kFin env.P h.length false []) :=
 x13 (mode := 0) (by kernel_rfl) Try.func112 (by kernel_rfl) (by kernel_rfl) xx4 (by kernel_rfl) (by kernel_rfl)
noncomputable def xm3 : SC := x2c Try.f112 0
theorem xlf : xg env call L nf thaw live (x8c 0) m (n + 1) s h k = xf env call L nf thaw live x8c xm3 s h (x2d env call L nf thaw live (x8c 0) m n k) :=
 xl xx4 (by kernel_rfl)
noncomputable def xg1 : SC := x2c Try.f112 1
theorem xfd : xg env call L nf thaw live (x8c 1) m (n + 1) s h k = xf env call L nf thaw live x8c xg1 s h (x2d env call L nf thaw live (x8c 1) m n k) :=
 xl xx4 (by kernel_rfl)
noncomputable def x13x : SC := x1h Try.f113
noncomputable def xek : Nat → Code := lpOf Try.f113
theorem x10n : xi (xu Try.f113) = true := by kernel_rfl
theorem x1hf : x2 env L (n + 1) 113 args h = xf env (x2 env L n) L h.length [] (U2 (Z2 (U2 (U1 (Z16 (Z2 ([]))))))) xek x13x (args ++ List.replicate (Try.f113.ntmps - args.length) (.d .undef)) h (kFin env.P h.length false [.tmp 4]) :=
 x13 (mode := 1) (by kernel_rfl) Try.func113 (by kernel_rfl) (by kernel_rfl) x10n (by kernel_rfl) (by kernel_rfl)
noncomputable def xo8 : SC := x2c Try.f113 0
theorem xrc : xg env call L nf thaw live (xek 0) m (n + 1) s h k = xf env call L nf thaw live xek xo8 s h (x2d env call L nf thaw live (xek 0) m n k) :=
 xl x10n (by kernel_rfl)
noncomputable def x129 : SC := x1h Try.f114
noncomputable def x7m : Nat → Code := lpOf Try.f114
theorem xqd : xi (xu Try.f114) = true := by kernel_rfl
theorem x1gy : x2 env L (n + 1) 114 args h = xf env (x2 env L n) L h.length [] (U4 (U1 (Z4 (Z1 (U4 (U1 (Z32 (Z16 (Z1 ([])))))))))) x7m x129 (args ++ List.replicate (Try.f114.ntmps - args.length) (.d .undef)) h (kFin env.P h.length false [.tmp 10]) :=
 x13 (mode := 2) (by kernel_rfl) Try.func114 (by kernel_rfl) (by kernel_rfl) xqd (by kernel_rfl) (by kernel_rfl)
noncomputable def xny : SC := x2c Try.f114 0
theorem xqp : xg env call L nf thaw live (x7m 0) m (n + 1) s h k = xf env call L nf thaw live x7m xny s h (x2d env call L nf thaw live (x7m 0) m n k) :=
 xl xqd (by kernel_rfl)
noncomputable def xd1 : SC := x2c Try.f114 1
theorem xct : xg env call L nf thaw live (x7m 1) m (n + 1) s h k = xf env call L nf thaw live x7m xd1 s h (x2d env call L nf thaw live (x7m 1) m n k) :=
 xl xqd (by kernel_rfl)
noncomputable def x1bg : SC := x1h Try.f115
noncomputable def x1lw : Nat → Code := lpOf Try.f115
theorem x1m6 : xi (xu Try.f115) = true := by kernel_rfl
theorem x1lj : x2 env L (n + 1) 115 args h = xf env (x2 env L n) L h.length [] ([]) x1lw x1bg (args ++ List.replicate (Try.f115.ntmps - args.length) (.d .undef)) h (kFin env.P h.length false [.tmp 2]) :=
 x13 (mode := 1) (by kernel_rfl) Try.func115 (by kernel_rfl) (by kernel_rfl) x1m6 (by kernel_rfl) (by kernel_rfl)
noncomputable def xpp : SC := x1h Try.f116
noncomputable def x11s : Nat → Code := lpOf Try.f116
theorem x11j : xi (xu Try.f116) = true := by kernel_rfl
theorem x11n : x2 env L (n + 1) 116 args h = xf env (x2 env L n) L h.length [] ([]) x11s xpp (args ++ List.replicate (Try.f116.ntmps - args.length) (.d .undef)) h (kFin env.P h.length false [.tmp 9]) :=
 x13 (mode := 0) (by kernel_rfl) Try.func116 (by kernel_rfl) (by kernel_rfl) x11j (by kernel_rfl) (by kernel_rfl)
noncomputable def xj7 : SC := x1h Try.f117
noncomputable def x3w : Nat → Code := lpOf Try.f117
theorem xgx : xi (xu Try.f117) = true := by kernel_rfl
theorem xnq : x2 env L (n + 1) 117 args h = xf env (x2 env L n) L h.length [0,0,0,0,0,0,0,0,0,0,0,0,0,0,0,0,0,0,2] (Z2 (U2 (Z4 (Z2 (U2 (Z1 (U2 (U1 (Z1 (U2 (Z8 (Z4 (Z2 (U2 (U1 (Z4 (Z2 (Z1 (U2 (U1 (Z16 (Z1 ([]))))))))))))))))))))))) x3w xj7 (args ++ List.replicate (Try.f117.ntmps - args.length) (.d .undef)) h (kFin env.P h.length false [.tmp 10,.tmp 11]) :=
 x13 (mode := 1) (by kernel_rfl) Try.func117 (by kernel_rfl) (by kernel_rfl) xgx (by kernel_rfl) (by kernel_rfl)
noncomputable def xc4 : SC := x2c Try.f117 0
theorem xc3 : xg env call L nf thaw live (x3w 0) m (n + 1) s h k = xf env call L nf thaw live x3w xc4 s h (x2d env call L nf thaw live (x3w 0) m n k) :=
 xl xgx (by kernel_rfl)
noncomputable def xfe : SC := x2c Try.f117 1
theorem xfp : xg env call L nf thaw live (x3w 1) m (n + 1) s h k = xf env call L nf thaw live x3w xfe s h (x2d env call L nf thaw live (x3w 1) m n k) :=
 xl xgx (by kernel_rfl)
noncomputable def xln : SC := x2c Try.f117 2
theorem xp6 : xg env call L nf thaw live (x3w 2) m (n + 1) s h k = xf env call L nf thaw live x3w xln s h (x2d env call L nf thaw live (x3w 2) m n k) :=
 xl xgx (by kernel_rfl)
noncomputable def xoz : SC := x1h Try.f118
noncomputable def x11i : Nat → Code := lpOf Try.f118
theorem x11p : xi (xu Try.f118) = true := by kernel_rfl
theorem x11r : x2 env L (n + 1) 118 args h = xf env (x2 env L n) L h.length [] ([]) x11i xoz (args ++ List.replicate (Try.f118.ntmps - args.length) (.d .undef)) h (kFin env.P h.length false [.tmp 6]) :=
 x13 (mode := 0) (by kernel_rfl) Try.func118 (by kernel_rfl) (by kernel_rfl) x11p (by kernel_rfl) (by kernel_rfl)
noncomputable def x18w : SC := x1h Try.f119
noncomputable def xpx : Nat → Code := lpOf Try.f119
theorem x1fn : xi (xu Try.f119) = true := by kernel_rfl
theorem x1f9 : x2 env L (n + 1) 119 args h = xf env (x2 env L n) L h.length [] (U2 (Z2 (U2 (Z8 (Z4 ([])))))) xpx x18w (args ++ List.replicate (Try.f119.ntmps - args.length) (.d .undef)) h (kFin env.P h.length false [.tmp 4]) :=
 x13 (mode := 1) (by kernel_rfl) Try.func119 (by kernel_rfl) (by kernel_rfl) x1fn (by kernel_rfl) (by kernel_rfl)
noncomputable def xrt : SC := x2c Try.f119 0
theorem xq6 : xg env call L nf thaw live (xpx 0) m (n + 1) s h k = xf env call L nf thaw live xpx xrt s h (x2d env call L nf thaw live (xpx 0) m n k) :=
 xl x1fn (by kernel_rfl)
noncomputable def x1a4 : SC := x1h Try.f137
noncomputable def x8d : Nat → Code := lpOf Try.f137
theorem xwz : xi (xu Try.f137) = true := by kernel_rfl
theorem x1lz : x2 env L (n + 1) 137 args h = xf env (x2 env L n) L h.length [] (Z2 (U1 (Z2 (Z1 (U4 (Z32 (Z4 (Z2 (Z1 ([])))))))))) x8d x1a4 (args ++ List.replicate (Try.f137.ntmps - args.length) (.d .undef)) h (kFin env.P h.length false Try.f137.results.toList) :=
 x13 (mode := 0) (by kernel_rfl) Try.func137 (by kernel_rfl) (by kernel_rfl) xwz (by kernel_rfl) (by kernel_rfl)
noncomputable def xu0 : SC := x2c Try.f137 0
theorem xvi : xg env call L nf thaw live (x8d 0) m (n + 1) s h k = xf env call L nf thaw live x8d xu0 s h (x2d env call L nf thaw live (x8d 0) m n k) :=
 xl xwz (by kernel_rfl)
noncomputable def xsf : SC := x2c Try.f137 1
theorem xwb : xg env call L nf thaw live (x8d 1) m (n + 1) s h k = xf env call L nf thaw live x8d xsf s h (x2d env call L nf thaw live (x8d 1) m n k) :=
 xl xwz (by kernel_rfl)
noncomputable def x13d : SC := x1h Try.f138
noncomputable def x5x : Nat → Code := lpOf Try.f138
theorem xql : xi (xu Try.f138) = true := by kernel_rfl
theorem x1hg : x2 env L (n + 1) 138 args h = xf env (x2 env L n) L h.length [0,0,0,0,0,0,0,0,0,0,0,0,0,0,0,0,0,0,0,0,0,0,0,0,0,0,0,0,0,0,0,0,0,0,0,0,0,1002] (U1 (Z1 (U1 (Z2 (Z1 (U4 (U2 (Z32 (Z4 (Z1 ([]))))))))))) x5x x13d (args ++ List.replicate (Try.f138.ntmps - args.length) (.d .undef)) h (kFin env.P h.length true Try.f138.results.toList) :=
 x13 (mode := 0) (by kernel_rfl) Try.func138 (by kernel_rfl) (by kernel_rfl) xql (by kernel_rfl) (by kernel_rfl)
noncomputable def xh2 : SC := x2c Try.f138 0
theorem xhm : xg env call L nf thaw live (x5x 0) m (n + 1) s h k = xf env call L nf thaw live x5x xh2 s h (x2d env call L nf thaw live (x5x 0) m n k) :=
 xl xql (by kernel_rfl)
noncomputable def xd6 : SC := x2c Try.f138 1
theorem xcu : xg env call L nf thaw live (x5x 1) m (n + 1) s h k = xf env call L nf thaw live x5x xd6 s h (x2d env call L nf thaw live (x5x 1) m n k) :=
 xl xql (by kernel_rfl)
noncomputable def x16u : SC := x1h Try.f139
noncomputable def x57 : Nat → Code := lpOf Try.f139
theorem xls : xi (xu Try.f139) = true := by kernel_rfl
theorem x1i5 : x2 env L (n + 1) 139 args h = xf env (x2 env L n) L h.length [] (Z1 (U4 (Z2 (Z1 (U4 (U2 (U1 (Z32 (Z8 (Z4 (Z2 (Z1 ([]))))))))))))) x57 x16u (args ++ List.replicate (Try.f139.ntmps - args.length) (.d .undef)) h (kFin env.P h.length false [.tmp 8]) :=
 x13 (mode := 2) (by kernel_rfl) Try.func139 (by kernel_rfl) (by kernel_rfl) xls (by kernel_rfl) (by kernel_rfl)
noncomputable def xq0 : SC := x2c Try.f139 0
theorem xun : xg env call L nf thaw live (x57 0) m (n + 1) s h k = xf env call L nf thaw live x57 xq0 s h (x2d env call L nf thaw live (x57 0) m n k) :=
 xl xls (by kernel_rfl)
noncomputable def xqc : SC := x2c Try.f139 1
theorem xuf : xg env call L nf thaw live (x57 1) m (n + 1) s h k = xf env call L nf thaw live x57 xqc s h (x2d env call L nf thaw live (x57 1) m n k) :=
 xl xls (by kernel_rfl)
noncomputable def xqg : SC := x2c Try.f139 2
theorem xt5 : xg env call L nf thaw live (x57 2) m (n + 1) s h k = xf env call L nf thaw live x57 xqg s h (x2d env call L nf thaw live (x57 2) m n k) :=
 xl xls (by kernel_rfl)
noncomputable def x1iu : SC := x1h Try.f140
noncomputable def x1qd : Nat → Code := lpOf Try.f140
theorem x1qy : xi (xu Try.f140) = true := by kernel_rfl
theorem x1u7 : x2 env L (n + 1) 140 args h = xf env (x2 env L n) L h.length [] ([]) x1qd x1iu (args ++ List.replicate (Try.f140.ntmps - args.length) (.d .undef)) h (kFin env.P h.length false [.tmp 6]) :=
 x13 (mode := 1) (by kernel_rfl) Try.func140 (by kernel_rfl) (by kernel_rfl) x1qy (by kernel_rfl) (by kernel_rfl)
noncomputable def xzy : SC := x1h Try.f141
noncomputable def x9v : Nat → Code := lpOf Try.f141
theorem xwm : xi (xu Try.f141) = true := by kernel_rfl
theorem x176 : x2 env L (n + 1) 141 args h = xf env (x2 env L n) L h.length [] (U2 (U1 (Z2 (Z1 (U2 (U1 (Z16 (Z8 (Z2 (Z1 ([]))))))))))) x9v xzy (args ++ List.replicate (Try.f141.ntmps - args.length) (.d .undef)) h (kFin env.P h.length false [.tmp 6]) :=
 x13 (mode := 1) (by kernel_rfl) Try.func141 (by kernel_rfl) (by kernel_rfl) xwm (by kernel_rfl) (by kernel_rfl)
noncomputable def xkz : SC := x2c Try.f141 0
theorem xkm : xg env call L nf thaw live (x9v 0) m (n + 1) s h k = xf env call L nf thaw live x9v xkz s h (x2d env call L nf thaw live (x9v 0) m n k) :=
 xl xwm (by kernel_rfl)
noncomputable def xlo : SC := x2c Try.f141 1
theorem xlv : xg env call L nf thaw live (x9v 1) m (n + 1) s h k = xf env call L nf thaw live x9v xlo s h (x2d env call L nf thaw live (x9v 1) m n k) :=
 xl xwm (by kernel_rfl)
noncomputable def xec : SC := x1h Try.f142
noncomputable def x8x : Nat → Code := lpOf Try.f142
theorem xqr : xi (xu Try.f142) = true := by kernel_rfl
theorem xho : x2 env L (n + 1) 142 args h = xf env (x2 env L n) L h.length [0,0,0,0,0,0,0,0,0,0,2] (U2 (Z1 (U2 (U1 (Z2 (Z1 (U2 (U1 (Z2 (U2 (U1 (Z32 (Z1 ([])))))))))))))) x8x xec (args ++ List.replicate (Try.f142.ntmps - args.length) (.d .undef)) h (kFin env.P h.length false [.tmp 9]) :=
 x13 (mode := 0) (by kernel_rfl) Try.func142 (by kernel_rfl) (by kernel_rfl) xqr (by kernel_rfl) (by kernel_rfl)
noncomputable def x3k : SC := x2c Try.f142 0
theorem x39 : xg env call L nf thaw live (x8x 0) m (n + 1) s h k = xf env call L nf thaw live x8x x3k s h (x2d env call L nf thaw live (x8x 0) m n k) :=
 xl xqr (by kernel_rfl)
noncomputable def x13m : SC := x1h Try.f143
noncomputable def xel : Nat → Code := lpOf Try.f143
theorem x11g : xi (xu Try.f143) = true := by kernel_rfl
theorem x1hc : x2 env L (n + 1) 143 args h = xf env (x2 env L n) L h.length [0,0,0,2] (U1 (Z1 (U2 (U1 (Z16 (Z8 (Z2 (Z1 ([]))))))))) xel x13m (args ++ List.replicate (Try.f143.ntmps - args.length) (.d .undef)) h (kFin env.P h.length false [.tmp 2]) :=
 x13 (mode := 1) (by kernel_rfl) Try.func143 (by kernel_rfl) (by kernel_rfl) x11g (by kernel_rfl) (by kernel_rfl)
noncomputable def xo1 : SC := x2c Try.f143 0
theorem xqz : xg env call L nf thaw live (xel 0) m (n + 1) s h k = xf env call L nf thaw live xel xo1 s h (x2d env call L nf thaw live (xel 0) m n k) :=
 xl x11g (by kernel_rfl)
noncomputable def x10s : SC := x1h Try.f152
noncomputable def x1dd : Nat → Code := lpOf Try.f152
theorem x1dn : xi (xu Try.f152) = true := by kernel_rfl
theorem x1do : x2 env L (n + 1) 152 args h = xf env (x2 env L n) L h.length [] (Z2 (U2 (Z4 (U4 (Z32 (Z32 (Z2 (Z1 ([]))))))))) x1dd x10s (args ++ List.replicate (Try.f152.ntmps - args.length) (.d .undef)) h (kFin env.P h.length false [.tmp 8]) :=
 x13 (mode := 2) (by kernel_rfl) Try.func152 (by kernel_rfl) (by kernel_rfl) x1dn (by kernel_rfl) (by kernel_rfl)
end
end Ev
end Go.Proofs.Ytppdfjdfjfoddaa
