/-
  Each function's code as an equation. Written by a program.
-/
import Derived.Test.YtppdfjdfjfoddaaEnv
set_option maxRecDepth 100000
namespace Go.Proofs.Ytppdfjdfjfoddaa
namespace Ev
section
variable {R : Type} {call : x1e} {L nf n : Nat} {thaw : List Nat} {live m : List Bool} {s args : List A} {h : H} {k : Exit → List A → H → Option R}
noncomputable def xah : SC := x12 Try.f6
noncomputable def xzs : Nat → Code := lpOf Try.f6
theorem xzx : xe (xn Try.f6) = true := by kernel_rfl
theorem xcp : x2 env L (n + 1) 6 args h = xa env (x2 env L n) L h.length [] ([]) xzs xah (args ++ List.replicate (Try.f6.ntmps - args.length) (.d .undef)) h (kFin env.P h.length false [.tmp 2]) :=
 xq (mode := 1) (by kernel_rfl) Try.func6 (by kernel_rfl) (by kernel_rfl) xzx (by kernel_rfl) (by kernel_rfl)
noncomputable def x5p : SC := x12 Try.f15
noncomputable def x3f : Nat → Code := lpOf Try.f15
theorem xdn : xe (xn Try.f15) = true := by kernel_rfl
theorem x6f : x2 env L (n + 1) 15 args h = xa env (x2 env L n) L h.length [] (Z1 (U2 (U1 (Z32 (Z2 (U2 (U1 (Z4 (Z2 (Z1 (U2 (U1 (Z8 (Z4 (Z2 ([])))))))))))))))) x3f x5p (args ++ List.replicate (Try.f15.ntmps - args.length) (.d .undef)) h (kFin env.P h.length false [.tmp 2]) :=
 xq (mode := 1) (by kernel_rfl) Try.func15 (by kernel_rfl) (by kernel_rfl) xdn (by kernel_rfl) (by kernel_rfl)
noncomputable def x7i : SC := x1f Try.f15 0
theorem x89 : xc env call L nf thaw live (x3f 0) m (n + 1) s h k = xa env call L nf thaw live x3f x7i s h (x1d env call L nf thaw live (x3f 0) m n k) :=
 xi xdn (by kernel_rfl)
noncomputable def x7h : SC := x1f Try.f15 1
theorem x8b : xc env call L nf thaw live (x3f 1) m (n + 1) s h k = xa env call L nf thaw live x3f x7h s h (x1d env call L nf thaw live (x3f 1) m n k) :=
 xi xdn (by kernel_rfl)
noncomputable def xhn : SC := x12 Try.f16
noncomputable def x1fd : Nat → Code := lpOf Try.f16
theorem x1ez : xe (xn Try.f16) = true := by kernel_rfl
theorem xmg : x2 env L (n + 1) 16 args h = xa env (x2 env L n) L h.length [] ([]) x1fd xhn (args ++ List.replicate (Try.f16.ntmps - args.length) (.d .undef)) h (kFin env.P h.length false [.tmp 4]) :=
 xq (mode := 1) (by kernel_rfl) Try.func16 (by kernel_rfl) (by kernel_rfl) x1ez (by kernel_rfl) (by kernel_rfl)
noncomputable def x11q : SC := x12 Try.f18
noncomputable def x1fj : Nat → Code := lpOf Try.f18
theorem x1f6 : xe (xn Try.f18) = true := by kernel_rfl
theorem x1et : x2 env L (n + 1) 18 args h = xa env (x2 env L n) L h.length [] ([]) x1fj x11q (args ++ List.replicate (Try.f18.ntmps - args.length) (.d .undef)) h (kFin env.P h.length true Try.f18.results.toList) :=
 xq (mode := 2) (by kernel_rfl) Try.func18 (by kernel_rfl) (by kernel_rfl) x1f6 (by kernel_rfl) (by kernel_rfl)
noncomputable def x17x : SC := x12 Try.f20
noncomputable def xew : Nat → Code := lpOf Try.f20
theorem x14o : xe (xn Try.f20) = true := by kernel_rfl
theorem x1lm : x2 env L (n + 1) 20 args h = xa env (x2 env L n) L h.length [] (U2 (Z2 (U2 (Z16 (Z4 ([])))))) xew x17x (args ++ List.replicate (Try.f20.ntmps - args.length) (.d .undef)) h (kFin env.P h.length false [.tmp 4]) :=
 xq (mode := 1) (by kernel_rfl) Try.func20 (by kernel_rfl) (by kernel_rfl) x14o (by kernel_rfl) (by kernel_rfl)
noncomputable def xph : SC := x1f Try.f20 0
theorem xs6 : xc env call L nf thaw live (xew 0) m (n + 1) s h k = xa env call L nf thaw live xew xph s h (x1d env call L nf thaw live (xew 0) m n k) :=
 xi x14o (by kernel_rfl)
noncomputable def x111 : SC := x12 Try.f21
noncomputable def x1f3 : Nat → Code := lpOf Try.f21
theorem x1e7 : xe (xn Try.f21) = true := by kernel_rfl
theorem x1ei : x2 env L (n + 1) 21 args h = xa env (x2 env L n) L h.length [] ([]) x1f3 x111 (args ++ List.replicate (Try.f21.ntmps - args.length) (.d .undef)) h (kFin env.P h.length false [.tmp 4]) :=
 xq (mode := 1) (by kernel_rfl) Try.func21 (by kernel_rfl) (by kernel_rfl) x1e7 (by kernel_rfl) (by kernel_rfl)
noncomputable def xva : SC := x12 Try.f22
noncomputable def x18o : Nat → Code := lpOf Try.f22
theorem x19m : xe (xn Try.f22) = true := by kernel_rfl
theorem x190 : x2 env L (n + 1) 22 args h = xa env (x2 env L n) L h.length [] ([]) x18o xva (args ++ List.replicate (Try.f22.ntmps - args.length) (.d .undef)) h (kFin env.P h.length false [.tmp 4]) :=
 xq (mode := 0) (by kernel_rfl) Try.func22 (by kernel_rfl) (by kernel_rfl) x19m (by kernel_rfl) (by kernel_rfl)
noncomputable def xpe : SC := x12 Try.f23
noncomputable def x9y : Nat → Code := lpOf Try.f23
theorem xwl : xe (xn Try.f23) = true := by kernel_rfl
theorem xww : x2 env L (n + 1) 23 args h = xa env (x2 env L n) L h.length [] (U2 (Z2 (U2 (Z8 (Z4 (Z2 ([]))))))) x9y xpe (args ++ List.replicate (Try.f23.ntmps - args.length) (.d .undef)) h (kFin env.P h.length false [.tmp 4]) :=
 xq (mode := 0) (by kernel_rfl) Try.func23 (by kernel_rfl) (by kernel_rfl) xwl (by kernel_rfl) (by kernel_rfl)
noncomputable def xdv : SC := x1f Try.f23 0
theorem xen : xc env call L nf thaw live (x9y 0) m (n + 1) s h k = xa env call L nf thaw live x9y xdv s h (x1d env call L nf thaw live (x9y 0) m n k) :=
 xi xwl (by kernel_rfl)
noncomputable def x110 : SC := x12 Try.f24
noncomputable def xc8 : Nat → Code := lpOf Try.f24
theorem xyl : xe (xn Try.f24) = true := by kernel_rfl
theorem x1er : x2 env L (n + 1) 24 args h = xa env (x2 env L n) L h.length [] (U2 (Z2 (U2 (Z16 ([]))))) xc8 x110 (args ++ List.replicate (Try.f24.ntmps - args.length) (.d .undef)) h (kFin env.P h.length false [.tmp 4]) :=
 xq (mode := 1) (by kernel_rfl) Try.func24 (by kernel_rfl) (by kernel_rfl) xyl (by kernel_rfl) (by kernel_rfl)
noncomputable def xkv : SC := x1f Try.f24 0
theorem xo9 : xc env call L nf thaw live (xc8 0) m (n + 1) s h k = xa env call L nf thaw live xc8 xkv s h (x1d env call L nf thaw live (xc8 0) m n k) :=
 xi xyl (by kernel_rfl)
noncomputable def xn3 : SC := x12 Try.f29
noncomputable def xaw : Nat → Code := lpOf Try.f29
theorem xu2 : xe (xn Try.f29) = true := by kernel_rfl
theorem xv1 : x2 env L (n + 1) 29 args h = xa env (x2 env L n) L h.length [] (Z2 (U4 (Z16 (Z8 (Z2 ([])))))) xaw xn3 (args ++ List.replicate (Try.f29.ntmps - args.length) (.d .undef)) h (kFin env.P h.length false [.tmp 2]) :=
 xq (mode := 2) (by kernel_rfl) Try.func29 (by kernel_rfl) (by kernel_rfl) xu2 (by kernel_rfl) (by kernel_rfl)
noncomputable def xib : SC := x1f Try.f29 0
theorem xls : xc env call L nf thaw live (xaw 0) m (n + 1) s h k = xa env call L nf thaw live xaw xib s h (x1d env call L nf thaw live (xaw 0) m n k) :=
 xi xu2 (by kernel_rfl)
noncomputable def xmv : SC := x12 Try.f30
noncomputable def xb7 : Nat → Code := lpOf Try.f30
theorem xv3 : xe (xn Try.f30) = true := by kernel_rfl
theorem xvr : x2 env L (n + 1) 30 args h = xa env (x2 env L n) L h.length [0,0,0,2] (Z1 (U2 (U1 (Z8 (U2 (Z16 (Z1 ([])))))))) xb7 xmv (args ++ List.replicate (Try.f30.ntmps - args.length) (.d .undef)) h (kFin env.P h.length true [.tmp 2]) :=
 xq (mode := 3) (by kernel_rfl) Try.func30 (by kernel_rfl) (by kernel_rfl) xv3 (by kernel_rfl) (by kernel_rfl)
noncomputable def xck : SC := x1f Try.f30 0
theorem xds : xc env call L nf thaw live (xb7 0) m (n + 1) s h k = xa env call L nf thaw live xb7 xck s h (x1d env call L nf thaw live (xb7 0) m n k) :=
 xi xv3 (by kernel_rfl)
noncomputable def x17s : SC := x12 Try.f36
noncomputable def x49 : Nat → Code := lpOf Try.f36
theorem xkn : xe (xn Try.f36) = true := by kernel_rfl
theorem x1n3 : x2 env L (n + 1) 36 args h = xa env (x2 env L n) L h.length [] (Z2 (U4 (U1 (Z8 (Z2 (Z1 (U2 (U1 (Z4 (U1 (Z8 (Z1 (U2 (U1 (Z16 ([])))))))))))))))) x49 x17s (args ++ List.replicate (Try.f36.ntmps - args.length) (.d .undef)) h (kFin env.P h.length false [.tmp 2]) :=
 xq (mode := 2) (by kernel_rfl) Try.func36 (by kernel_rfl) (by kernel_rfl) xkn (by kernel_rfl) (by kernel_rfl)
noncomputable def xpk : SC := x1f Try.f36 0
theorem xrq : xc env call L nf thaw live (x49 0) m (n + 1) s h k = xa env call L nf thaw live x49 xpk s h (x1d env call L nf thaw live (x49 0) m n k) :=
 xi xkn (by kernel_rfl)
noncomputable def xp8 : SC := x1f Try.f36 1
theorem xs5 : xc env call L nf thaw live (x49 1) m (n + 1) s h k = xa env call L nf thaw live x49 xp8 s h (x1d env call L nf thaw live (x49 1) m n k) :=
 xi xkn (by kernel_rfl)
noncomputable def xp6 : SC := x1f Try.f36 2
theorem xrz : xc env call L nf thaw live (x49 2) m (n + 1) s h k = xa env call L nf thaw live x49 xp6 s h (x1d env call L nf thaw live (x49 2) m n k) :=
 xi xkn (by kernel_rfl)
noncomputable def x10s : SC := x12 Try.f39
noncomputable def x9z : Nat → Code := lpOf Try.f39
theorem xxm : xe (xn Try.f39) = true := by kernel_rfl
theorem x1f9 : x2 env L (n + 1) 39 args h = xa env (x2 env L n) L h.length [0,0,0,2] (U1 (Z1 (U2 (Z1 (U1 (Z8 (Z2 (Z1 ([]))))))))) x9z x10s (args ++ List.replicate (Try.f39.ntmps - args.length) (.d .undef)) h (kFin env.P h.length false [.tmp 2]) :=
 xq (mode := 2) (by kernel_rfl) Try.func39 (by kernel_rfl) (by kernel_rfl) xxm (by kernel_rfl) (by kernel_rfl)
noncomputable def xdu : SC := x1f Try.f39 0
theorem xeb : xc env call L nf thaw live (x9z 0) m (n + 1) s h k = xa env call L nf thaw live x9z xdu s h (x1d env call L nf thaw live (x9z 0) m n k) :=
 xi xxm (by kernel_rfl)
noncomputable def x5q : SC := x12 Try.f41
noncomputable def x8c : Nat → Code := lpOf Try.f41
theorem xln : xe (xn Try.f41) = true := by kernel_rfl
theorem x6g : x2 env L (n + 1) 41 args h = xa env (x2 env L n) L h.length [] (Z1 (U4 (Z32 (Z4 (Z2 (Z1 ([]))))))) x8c x5q (args ++ List.replicate (Try.f41.ntmps - args.length) (.d .undef)) h (kFin env.P h.length false [.tmp 2]) :=
 xq (mode := 1) (by kernel_rfl) Try.func41 (by kernel_rfl) (by kernel_rfl) xln (by kernel_rfl) (by kernel_rfl)
noncomputable def x9n : SC := x1f Try.f41 0
theorem xao : xc env call L nf thaw live (x8c 0) m (n + 1) s h k = xa env call L nf thaw live x8c x9n s h (x1d env call L nf thaw live (x8c 0) m n k) :=
 xi xln (by kernel_rfl)
noncomputable def x10r : SC := x12 Try.f44
noncomputable def xc2 : Nat → Code := lpOf Try.f44
theorem xxh : xe (xn Try.f44) = true := by kernel_rfl
theorem x1ev : x2 env L (n + 1) 44 args h = xa env (x2 env L n) L h.length [] (U1 (Z1 (U2 (U1 (Z8 (Z4 (Z1 ([])))))))) xc2 x10r (args ++ List.replicate (Try.f44.ntmps - args.length) (.d .undef)) h (kFin env.P h.length false [.tmp 2]) :=
 xq (mode := 2) (by kernel_rfl) Try.func44 (by kernel_rfl) (by kernel_rfl) xxh (by kernel_rfl) (by kernel_rfl)
noncomputable def xe4 : SC := x1f Try.f44 0
theorem xf0 : xc env call L nf thaw live (xc2 0) m (n + 1) s h k = xa env call L nf thaw live xc2 xe4 s h (x1d env call L nf thaw live (xc2 0) m n k) :=
 xi xxh (by kernel_rfl)
noncomputable def x18s : SC := x12 Try.f45
noncomputable def x1u0 : Nat → Code := lpOf Try.f45
theorem x1t8 : xe (xn Try.f45) = true := by kernel_rfl
theorem x1j1 : x2 env L (n + 1) 45 args h = xa env (x2 env L n) L h.length [] ([]) x1u0 x18s (args ++ List.replicate (Try.f45.ntmps - args.length) (.d .undef)) h (kFin env.P h.length false [.tmp 6]) :=
 xq (mode := 1) (by kernel_rfl) Try.func45 (by kernel_rfl) (by kernel_rfl) x1t8 (by kernel_rfl) (by kernel_rfl)
noncomputable def xx1 : SC := x12 Try.f49
noncomputable def x1dg : Nat → Code := lpOf Try.f49
theorem x1ao : xe (xn Try.f49) = true := by kernel_rfl
theorem x1e2 : x2 env L (n + 1) 49 args h = xa env (x2 env L n) L h.length [] ([]) x1dg xx1 (args ++ List.replicate (Try.f49.ntmps - args.length) (.d .undef)) h (kFin env.P h.length false [.tmp 2]) :=
 xq (mode := 1) (by kernel_rfl) Try.func49 (by kernel_rfl) (by kernel_rfl) x1ao (by kernel_rfl) (by kernel_rfl)
noncomputable def xx2 : SC := x12 Try.f50
noncomputable def x1ap : Nat → Code := lpOf Try.f50
theorem x1aa : xe (xn Try.f50) = true := by kernel_rfl
theorem x1ar : x2 env L (n + 1) 50 args h = xa env (x2 env L n) L h.length [] ([]) x1ap xx2 (args ++ List.replicate (Try.f50.ntmps - args.length) (.d .undef)) h (kFin env.P h.length false [.tmp 2]) :=
 xq (mode := 1) (by kernel_rfl) Try.func50 (by kernel_rfl) (by kernel_rfl) x1aa (by kernel_rfl) (by kernel_rfl)
noncomputable def xde : SC := x12 Try.f51
noncomputable def x3g : Nat → Code := lpOf Try.f51
theorem xcg : xe (xn Try.f51) = true := by kernel_rfl
theorem xou : x2 env L (n + 1) 51 args h = xa env (x2 env L n) L h.length [] (U1 (Z1 (U2 (Z16 (Z8 ([])))))) x3g xde (args ++ List.replicate (Try.f51.ntmps - args.length) (.d .undef)) h (kFin env.P h.length false []) :=
 xq (mode := 0) (by kernel_rfl) Try.func51 (by kernel_rfl) (by kernel_rfl) xcg (by kernel_rfl) (by kernel_rfl)
noncomputable def x5z : SC := x1f Try.f51 0
theorem x76 : xc env call L nf thaw live (x3g 0) m (n + 1) s h k = xa env call L nf thaw live x3g x5z s h (x1d env call L nf thaw live (x3g 0) m n k) :=
 xi xcg (by kernel_rfl)
noncomputable def xup : SC := x12 Try.f54
noncomputable def xl6 : Nat → Code := lpOf Try.f54
theorem x1bf : xe (xn Try.f54) = true := by kernel_rfl
theorem x10d : x2 env L (n + 1) 54 args h = xa env (x2 env L n) L h.length [] (U2 (Z2 (U2 (Z16 (Z4 (Z1 ([]))))))) xl6 xup (args ++ List.replicate (Try.f54.ntmps - args.length) (.d .undef)) h (kFin env.P h.length false [.tmp 4]) :=
 xq (mode := 1) (by kernel_rfl) Try.func54 (by kernel_rfl) (by kernel_rfl) x1bf (by kernel_rfl) (by kernel_rfl)
noncomputable def xnj : SC := x1f Try.f54 0
theorem xmb : xc env call L nf thaw live (xl6 0) m (n + 1) s h k = xa env call L nf thaw live xl6 xnj s h (x1d env call L nf thaw live (xl6 0) m n k) :=
 xi x1bf (by kernel_rfl)
noncomputable def x12e : SC := x12 Try.f55
noncomputable def x1sd : Nat → Code := lpOf Try.f55
theorem x1re : xe (xn Try.f55) = true := by kernel_rfl
theorem x1cn : x2 env L (n + 1) 55 args h = xa env (x2 env L n) L h.length [] ([]) x1sd x12e (args ++ List.replicate (Try.f55.ntmps - args.length) (.d .undef)) h (kFin env.P h.length false [.tmp 4]) :=
 xq (mode := 1) (by kernel_rfl) Try.func55 (by kernel_rfl) (by kernel_rfl) x1re (by kernel_rfl) (by kernel_rfl)
noncomputable def x1hy : SC := x12 Try.f58
noncomputable def xfb : Nat → Code := lpOf Try.f58
theorem x1ce : xe (xn Try.f58) = true := by kernel_rfl
theorem x1sc : x2 env L (n + 1) 58 args h = xa env (x2 env L n) L h.length [0,0,0,0,0,0,0,1002] (U1 (Z1 (U2 (U1 (Z16 (Z2 ([]))))))) xfb x1hy (args ++ List.replicate (Try.f58.ntmps - args.length) (.d .undef)) h (kFin env.P h.length true [.tmp 2]) :=
 xq (mode := 2) (by kernel_rfl) Try.func58 (by kernel_rfl) (by kernel_rfl) x1ce (by kernel_rfl) (by kernel_rfl)
noncomputable def xwc : SC := x1f Try.f58 0
theorem xx8 : xc env call L nf thaw live (xfb 0) m (n + 1) s h k = xa env call L nf thaw live xfb xwc s h (x1d env call L nf thaw live (xfb 0) m n k) :=
 xi x1ce (by kernel_rfl)
noncomputable def x1ge : SC := x12 Try.f59
noncomputable def xl2 : Nat → Code := lpOf Try.f59
theorem x1di : xe (xn Try.f59) = true := by kernel_rfl
theorem x1r7 : x2 env L (n + 1) 59 args h = xa env (x2 env L n) L h.length [] (U1 (Z1 (U2 (U1 (Z16 (Z1 ([]))))))) xl2 x1ge (args ++ List.replicate (Try.f59.ntmps - args.length) (.d .undef)) h (kFin env.P h.length true [.tmp 2]) :=
 xq (mode := 2) (by kernel_rfl) Try.func59 (by kernel_rfl) (by kernel_rfl) x1di (by kernel_rfl) (by kernel_rfl)
noncomputable def xwg : SC := x1f Try.f59 0
theorem xxt : xc env call L nf thaw live (xl2 0) m (n + 1) s h k = xa env call L nf thaw live xl2 xwg s h (x1d env call L nf thaw live (xl2 0) m n k) :=
 xi x1di (by kernel_rfl)
noncomputable def x1fz : SC := x12 Try.f62
noncomputable def xke : Nat → Code := lpOf Try.f62
theorem x1cf : xe (xn Try.f62) = true := by kernel_rfl
theorem x1rx : x2 env L (n + 1) 62 args h = xa env (x2 env L n) L h.length [] (U2 (Z2 (U2 (Z16 (Z4 (Z1 ([]))))))) xke x1fz (args ++ List.replicate (Try.f62.ntmps - args.length) (.d .undef)) h (kFin env.P h.length false [.tmp 4]) :=
 xq (mode := 1) (by kernel_rfl) Try.func62 (by kernel_rfl) (by kernel_rfl) x1cf (by kernel_rfl) (by kernel_rfl)
noncomputable def xw4 : SC := x1f Try.f62 0
theorem xxx : xc env call L nf thaw live (xke 0) m (n + 1) s h k = xa env call L nf thaw live xke xw4 s h (x1d env call L nf thaw live (xke 0) m n k) :=
 xi x1cf (by kernel_rfl)
noncomputable def x1ha : SC := x12 Try.f63
noncomputable def xjx : Nat → Code := lpOf Try.f63
theorem x1b3 : xe (xn Try.f63) = true := by kernel_rfl
theorem x1qr : x2 env L (n + 1) 63 args h = xa env (x2 env L n) L h.length [] (U2 (Z2 (U2 (Z16 (Z4 ([])))))) xjx x1ha (args ++ List.replicate (Try.f63.ntmps - args.length) (.d .undef)) h (kFin env.P h.length false [.tmp 4]) :=
 xq (mode := 1) (by kernel_rfl) Try.func63 (by kernel_rfl) (by kernel_rfl) x1b3 (by kernel_rfl) (by kernel_rfl)
noncomputable def xvx : SC := x1f Try.f63 0
theorem xx9 : xc env call L nf thaw live (xjx 0) m (n + 1) s h k = xa env call L nf thaw live xjx xvx s h (x1d env call L nf thaw live (xjx 0) m n k) :=
 xi x1b3 (by kernel_rfl)
noncomputable def x16m : SC := x12 Try.f64
noncomputable def xc4 : Nat → Code := lpOf Try.f64
theorem x128 : xe (xn Try.f64) = true := by kernel_rfl
theorem x1nb : x2 env L (n + 1) 64 args h = xa env (x2 env L n) L h.length [] (U2 (Z2 (U2 (Z8 (Z4 (Z1 ([]))))))) xc4 x16m (args ++ List.replicate (Try.f64.ntmps - args.length) (.d .undef)) h (kFin env.P h.length false [.tmp 4]) :=
 xq (mode := 0) (by kernel_rfl) Try.func64 (by kernel_rfl) (by kernel_rfl) x128 (by kernel_rfl) (by kernel_rfl)
noncomputable def xp7 : SC := x1f Try.f64 0
theorem xtp : xc env call L nf thaw live (xc4 0) m (n + 1) s h k = xa env call L nf thaw live xc4 xp7 s h (x1d env call L nf thaw live (xc4 0) m n k) :=
 xi x128 (by kernel_rfl)
noncomputable def x16x : SC := x12 Try.f65
noncomputable def xez : Nat → Code := lpOf Try.f65
theorem x135 : xe (xn Try.f65) = true := by kernel_rfl
theorem x1m5 : x2 env L (n + 1) 65 args h = xa env (x2 env L n) L h.length [] (U2 (Z2 (U2 (Z8 (Z4 (Z2 (Z1 ([])))))))) xez x16x (args ++ List.replicate (Try.f65.ntmps - args.length) (.d .undef)) h (kFin env.P h.length false [.tmp 4]) :=
 xq (mode := 0) (by kernel_rfl) Try.func65 (by kernel_rfl) (by kernel_rfl) x135 (by kernel_rfl) (by kernel_rfl)
noncomputable def xpi : SC := x1f Try.f65 0
theorem xrv : xc env call L nf thaw live (xez 0) m (n + 1) s h k = xa env call L nf thaw live xez xpi s h (x1d env call L nf thaw live (xez 0) m n k) :=
 xi x135 (by kernel_rfl)
noncomputable def x102 : SC := x12 Try.f66
noncomputable def xh7 : Nat → Code := lpOf Try.f66
theorem x17q : xe (xn Try.f66) = true := by kernel_rfl
theorem x173 : x2 env L (n + 1) 66 args h = xa env (x2 env L n) L h.length [] (U1 (Z1 (U2 (Z16 ([]))))) xh7 x102 (args ++ List.replicate (Try.f66.ntmps - args.length) (.d .undef)) h (kFin env.P h.length false [.tmp 2]) :=
 xq (mode := 1) (by kernel_rfl) Try.func66 (by kernel_rfl) (by kernel_rfl) x17q (by kernel_rfl) (by kernel_rfl)
noncomputable def xjo : SC := x1f Try.f66 0
theorem xjh : xc env call L nf thaw live (xh7 0) m (n + 1) s h k = xa env call L nf thaw live xh7 xjo s h (x1d env call L nf thaw live (xh7 0) m n k) :=
 xi x17q (by kernel_rfl)
noncomputable def x1px : SC := x12 Try.f68
noncomputable def x1zo : Nat → Code := lpOf Try.f68
theorem x1yy : xe (xn Try.f68) = true := by kernel_rfl
theorem x1zx : x2 env L (n + 1) 68 args h = xa env (x2 env L n) L h.length [] ([]) x1zo x1px (args ++ List.replicate (Try.f68.ntmps - args.length) (.d .undef)) h (kFin env.P h.length false [.tmp 4]) :=
 xq (mode := 1) (by kernel_rfl) Try.func68 (by kernel_rfl) (by kernel_rfl) x1yy (by kernel_rfl) (by kernel_rfl)
noncomputable def x1ai : SC := x12 Try.f69
noncomputable def x8v : Nat → Code := lpOf Try.f69
theorem xwd : xe (xn Try.f69) = true := by kernel_rfl
theorem x1p0 : x2 env L (n + 1) 69 args h = xa env (x2 env L n) L h.length [] (Z1 (U4 (U2 (U1 (Z32 (Z16 (Z8 (Z4 (Z1 ([])))))))))) x8v x1ai (args ++ List.replicate (Try.f69.ntmps - args.length) (.d .undef)) h (kFin env.P h.length false Try.f69.results.toList) :=
 xq (mode := 2) (by kernel_rfl) Try.func69 (by kernel_rfl) (by kernel_rfl) xwd (by kernel_rfl) (by kernel_rfl)
noncomputable def xl9 : SC := x1f Try.f69 0
theorem xl7 : xc env call L nf thaw live (x8v 0) m (n + 1) s h k = xa env call L nf thaw live x8v xl9 s h (x1d env call L nf thaw live (x8v 0) m n k) :=
 xi xwd (by kernel_rfl)
noncomputable def xtd : SC := x1f Try.f69 1
theorem xvs : xc env call L nf thaw live (x8v 1) m (n + 1) s h k = xa env call L nf thaw live x8v xtd s h (x1d env call L nf thaw live (x8v 1) m n k) :=
 xi xwd (by kernel_rfl)
noncomputable def xfl : SC := x12 Try.f70
noncomputable def x1ac : Nat → Code := lpOf Try.f70
theorem x1cx : xe (xn Try.f70) = true := by kernel_rfl
theorem xkp : x2 env L (n + 1) 70 args h = xa env (x2 env L n) L h.length [] ([]) x1ac xfl (args ++ List.replicate (Try.f70.ntmps - args.length) (.d .undef)) h (kFin env.P h.length false [.tmp 4,.tmp 5]) :=
 xq (mode := 1) (by kernel_rfl) Try.func70 (by kernel_rfl) (by kernel_rfl) x1cx (by kernel_rfl) (by kernel_rfl)
noncomputable def xn8 : SC := x12 Try.f71
noncomputable def x1d2 : Nat → Code := lpOf Try.f71
theorem x1d4 : xe (xn Try.f71) = true := by kernel_rfl
theorem xtt : x2 env L (n + 1) 71 args h = xa env (x2 env L n) L h.length [] ([]) x1d2 xn8 (args ++ List.replicate (Try.f71.ntmps - args.length) (.d .undef)) h (kFin env.P h.length false [.tmp 4,.tmp 5]) :=
 xq (mode := 1) (by kernel_rfl) Try.func71 (by kernel_rfl) (by kernel_rfl) x1d4 (by kernel_rfl) (by kernel_rfl)
theorem xge {L n : Nat} {args : List A} {h : H} : x2 env L (n + 1) 72 args h = xso 73 args h := by
 have : env.prim 72 = some (xso 73) := by kernel_rfl
 simp only [x2,this]
noncomputable def xkc : SC := x12 Try.f73
noncomputable def x10o : Nat → Code := lpOf Try.f73
theorem x10z : xe (xn Try.f73) = true := by kernel_rfl
theorem x1j7 : x2 env L (n + 1) 73 args h = xa env (x2 env L n) L h.length [] ([]) x10o xkc (args ++ List.replicate (Try.f73.ntmps - args.length) (.d .undef)) h (kFin env.P h.length false [.tmp 4]) :=
 xq (mode := 1) (by kernel_rfl) Try.func73 (by kernel_rfl) (by kernel_rfl) x10z (by kernel_rfl) (by kernel_rfl)
noncomputable def xws : SC := x12 Try.f79
noncomputable def x1cy : Nat → Code := lpOf Try.f79
theorem x1a9 : xe (xn Try.f79) = true := by kernel_rfl
theorem x1dy : x2 env L (n + 1) 79 args h = xa env (x2 env L n) L h.length [] ([]) x1cy xws (args ++ List.replicate (Try.f79.ntmps - args.length) (.d .undef)) h (kFin env.P h.length false [.tmp 2]) :=
 xq (mode := 1) (by kernel_rfl) Try.func79 (by kernel_rfl) (by kernel_rfl) x1a9 (by kernel_rfl) (by kernel_rfl)
noncomputable def xv8 : SC := x12 Try.f80
noncomputable def xjr : Nat → Code := lpOf Try.f80
theorem x1c6 : xe (xn Try.f80) = true := by kernel_rfl
theorem x10e : x2 env L (n + 1) 80 args h = xa env (x2 env L n) L h.length [] (U1 (Z1 (U1 (Z2 (Z1 (U2 (Z16 (Z4 (Z2 (Z1 ([]))))))))))) xjr xv8 (args ++ List.replicate (Try.f80.ntmps - args.length) (.d .undef)) h (kFin env.P h.length false [.tmp 6]) :=
 xq (mode := 1) (by kernel_rfl) Try.func80 (by kernel_rfl) (by kernel_rfl) x1c6 (by kernel_rfl) (by kernel_rfl)
noncomputable def xgv : SC := x1f Try.f80 0
theorem xfo : xc env call L nf thaw live (xjr 0) m (n + 1) s h k = xa env call L nf thaw live xjr xgv s h (x1d env call L nf thaw live (xjr 0) m n k) :=
 xi x1c6 (by kernel_rfl)
noncomputable def x1hz : SC := x12 Try.f81
noncomputable def x1sa : Nat → Code := lpOf Try.f81
theorem x1rj : xe (xn Try.f81) = true := by kernel_rfl
theorem x1r5 : x2 env L (n + 1) 81 args h = xa env (x2 env L n) L h.length [] ([]) x1sa x1hz (args ++ List.replicate (Try.f81.ntmps - args.length) (.d .undef)) h (kFin env.P h.length false [.tmp 4]) :=
 xq (mode := 1) (by kernel_rfl) Try.func81 (by kernel_rfl) (by kernel_rfl) x1rj (by kernel_rfl) (by kernel_rfl)
noncomputable def x16i : SC := x12 Try.f83
noncomputable def xf5 : Nat → Code := lpOf Try.f83
theorem x13b : xe (xn Try.f83) = true := by kernel_rfl
theorem x1kl : x2 env L (n + 1) 83 args h = xa env (x2 env L n) L h.length [] (U2 (Z2 (U2 (U1 (Z8 (Z2 (Z1 ([])))))))) xf5 x16i (args ++ List.replicate (Try.f83.ntmps - args.length) (.d .undef)) h (kFin env.P h.length false [.tmp 4]) :=
 xq (mode := 1) (by kernel_rfl) Try.func83 (by kernel_rfl) (by kernel_rfl) x13b (by kernel_rfl) (by kernel_rfl)
noncomputable def xhm : SC := x1f Try.f83 0
theorem xhz : xc env call L nf thaw live (xf5 0) m (n + 1) s h k = xa env call L nf thaw live xf5 xhm s h (x1d env call L nf thaw live (xf5 0) m n k) :=
 xi x13b (by kernel_rfl)
noncomputable def x19q : SC := x12 Try.f84
noncomputable def x1sl : Nat → Code := lpOf Try.f84
theorem x1y1 : xe (xn Try.f84) = true := by kernel_rfl
theorem x1h0 : x2 env L (n + 1) 84 args h = xa env (x2 env L n) L h.length [] ([]) x1sl x19q (args ++ List.replicate (Try.f84.ntmps - args.length) (.d .undef)) h (kFin env.P h.length false [.tmp 4]) :=
 xq (mode := 1) (by kernel_rfl) Try.func84 (by kernel_rfl) (by kernel_rfl) x1y1 (by kernel_rfl) (by kernel_rfl)
noncomputable def xnm : SC := x12 Try.f85
noncomputable def x1m1 : Nat → Code := lpOf Try.f85
theorem x1l3 : xe (xn Try.f85) = true := by kernel_rfl
theorem xsl : x2 env L (n + 1) 85 args h = xa env (x2 env L n) L h.length [] ([]) x1m1 xnm (args ++ List.replicate (Try.f85.ntmps - args.length) (.d .undef)) h (kFin env.P h.length false [.tmp 4]) :=
 xq (mode := 1) (by kernel_rfl) Try.func85 (by kernel_rfl) (by kernel_rfl) x1l3 (by kernel_rfl) (by kernel_rfl)
noncomputable def xnn : SC := x12 Try.f86
noncomputable def x2h : Nat → Code := lpOf Try.f86
theorem xeg : xe (xn Try.f86) = true := by kernel_rfl
theorem xrx : x2 env L (n + 1) 86 args h = xa env (x2 env L n) L h.length [] (Z1 (U8 (U4 (U2 (U1 (Z32 (Z32 (Z16 (Z8 (Z2 (Z1 ([])))))))))))) x2h xnn (args ++ List.replicate (Try.f86.ntmps - args.length) (.d .undef)) h (kFin env.P h.length false [.tmp 2,.tmp 3]) :=
 xq (mode := 1) (by kernel_rfl) Try.func86 (by kernel_rfl) (by kernel_rfl) xeg (by kernel_rfl) (by kernel_rfl)
noncomputable def xpr : SC := x1f Try.f86 0
theorem xsr : xc env call L nf thaw live (x2h 0) m (n + 1) s h k = xa env call L nf thaw live x2h xpr s h (x1d env call L nf thaw live (x2h 0) m n k) :=
 xi xeg (by kernel_rfl)
noncomputable def xhf : SC := x1f Try.f86 1
theorem xih : xc env call L nf thaw live (x2h 1) m (n + 1) s h k = xa env call L nf thaw live x2h xhf s h (x1d env call L nf thaw live (x2h 1) m n k) :=
 xi xeg (by kernel_rfl)
noncomputable def xd5 : SC := x1f Try.f86 2
theorem xcz : xc env call L nf thaw live (x2h 2) m (n + 1) s h k = xa env call L nf thaw live x2h xd5 s h (x1d env call L nf thaw live (x2h 2) m n k) :=
 xi xeg (by kernel_rfl)
noncomputable def xd7 : SC := x1f Try.f86 3
theorem xcq : xc env call L nf thaw live (x2h 3) m (n + 1) s h k = xa env call L nf thaw live x2h xd7 s h (x1d env call L nf thaw live (x2h 3) m n k) :=
 xi xeg (by kernel_rfl)
noncomputable def x1lz : SC := x12 Try.f87
noncomputable def xo7 : Nat → Code := lpOf Try.f87
theorem x1gi : xe (xn Try.f87) = true := by kernel_rfl
theorem x1u3 : x2 env L (n + 1) 87 args h = xa env (x2 env L n) L h.length [] (U1 (Z1 (U2 (U1 (Z16 (Z1 ([]))))))) xo7 x1lz (args ++ List.replicate (Try.f87.ntmps - args.length) (.d .undef)) h (kFin env.P h.length true [.tmp 2]) :=
 xq (mode := 2) (by kernel_rfl) Try.func87 (by kernel_rfl) (by kernel_rfl) x1gi (by kernel_rfl) (by kernel_rfl)
noncomputable def x10c : SC := x1f Try.f87 0
theorem x11w : xc env call L nf thaw live (xo7 0) m (n + 1) s h k = xa env call L nf thaw live xo7 x10c s h (x1d env call L nf thaw live (xo7 0) m n k) :=
 xi x1gi (by kernel_rfl)
noncomputable def x1mv : SC := x12 Try.f91
noncomputable def xo4 : Nat → Code := lpOf Try.f91
theorem x1hx : xe (xn Try.f91) = true := by kernel_rfl
theorem x1sz : x2 env L (n + 1) 91 args h = xa env (x2 env L n) L h.length [] (U2 (Z2 (U2 (Z16 (Z4 ([])))))) xo4 x1mv (args ++ List.replicate (Try.f91.ntmps - args.length) (.d .undef)) h (kFin env.P h.length false [.tmp 4]) :=
 xq (mode := 1) (by kernel_rfl) Try.func91 (by kernel_rfl) (by kernel_rfl) x1hx (by kernel_rfl) (by kernel_rfl)
noncomputable def xzy : SC := x1f Try.f91 0
theorem x11j : xc env call L nf thaw live (xo4 0) m (n + 1) s h k = xa env call L nf thaw live xo4 xzy s h (x1d env call L nf thaw live (xo4 0) m n k) :=
 xi x1hx (by kernel_rfl)
noncomputable def x1bd : SC := x12 Try.f92
noncomputable def xgg : Nat → Code := lpOf Try.f92
theorem x17h : xe (xn Try.f92) = true := by kernel_rfl
theorem x1ob : x2 env L (n + 1) 92 args h = xa env (x2 env L n) L h.length [] (U2 (Z2 (U2 (Z8 (Z4 (Z1 ([]))))))) xgg x1bd (args ++ List.replicate (Try.f92.ntmps - args.length) (.d .undef)) h (kFin env.P h.length false [.tmp 4]) :=
 xq (mode := 0) (by kernel_rfl) Try.func92 (by kernel_rfl) (by kernel_rfl) x17h (by kernel_rfl) (by kernel_rfl)
noncomputable def xt7 : SC := x1f Try.f92 0
theorem xtw : xc env call L nf thaw live (xgg 0) m (n + 1) s h k = xa env call L nf thaw live xgg xt7 s h (x1d env call L nf thaw live (xgg 0) m n k) :=
 xi x17h (by kernel_rfl)
noncomputable def x172 : SC := x12 Try.f94
noncomputable def x6k : Nat → Code := lpOf Try.f94
theorem xsf : xe (xn Try.f94) = true := by kernel_rfl
theorem x1kz : x2 env L (n + 1) 94 args h = xa env (x2 env L n) L h.length [] (Z1 (U4 (U2 (Z32 (Z4 ([])))))) x6k x172 (args ++ List.replicate (Try.f94.ntmps - args.length) (.d .undef)) h (kFin env.P h.length false [.tmp 2]) :=
 xq (mode := 2) (by kernel_rfl) Try.func94 (by kernel_rfl) (by kernel_rfl) xsf (by kernel_rfl) (by kernel_rfl)
noncomputable def xp9 : SC := x1f Try.f94 0
theorem xsi : xc env call L nf thaw live (x6k 0) m (n + 1) s h k = xa env call L nf thaw live x6k xp9 s h (x1d env call L nf thaw live (x6k 0) m n k) :=
 xi xsf (by kernel_rfl)
noncomputable def xhj : SC := x1f Try.f94 1
theorem xic : xc env call L nf thaw live (x6k 1) m (n + 1) s h k = xa env call L nf thaw live x6k xhj s h (x1d env call L nf thaw live (x6k 1) m n k) :=
 xi xsf (by kernel_rfl)
noncomputable def x17y : SC := x12 Try.f95
noncomputable def xem : Nat → Code := lpOf Try.f95
theorem x14z : xe (xn Try.f95) = true := by kernel_rfl
theorem x1l8 : x2 env L (n + 1) 95 args h = xa env (x2 env L n) L h.length [] (U2 (Z2 (U2 (Z8 (Z1 ([])))))) xem x17y (args ++ List.replicate (Try.f95.ntmps - args.length) (.d .undef)) h (kFin env.P h.length false [.tmp 4]) :=
 xq (mode := 1) (by kernel_rfl) Try.func95 (by kernel_rfl) (by kernel_rfl) x14z (by kernel_rfl) (by kernel_rfl)
noncomputable def xps : SC := x1f Try.f95 0
theorem xs4 : xc env call L nf thaw live (xem 0) m (n + 1) s h k = xa env call L nf thaw live xem xps s h (x1d env call L nf thaw live (xem 0) m n k) :=
 xi x14z (by kernel_rfl)
noncomputable def x10k : SC := x12 Try.f96
noncomputable def x1f2 : Nat → Code := lpOf Try.f96
theorem x1e9 : xe (xn Try.f96) = true := by kernel_rfl
theorem x1e6 : x2 env L (n + 1) 96 args h = xa env (x2 env L n) L h.length [] ([]) x1f2 x10k (args ++ List.replicate (Try.f96.ntmps - args.length) (.d .undef)) h (kFin env.P h.length false [.tmp 4,.tmp 5]) :=
 xq (mode := 1) (by kernel_rfl) Try.func96 (by kernel_rfl) (by kernel_rfl) x1e9 (by kernel_rfl) (by kernel_rfl)
noncomputable def xgb : SC := x12 Try.f97
noncomputable def x13w : Nat → Code := lpOf Try.f97
theorem x12c : xe (xn Try.f97) = true := by kernel_rfl
theorem xo3 : x2 env L (n + 1) 97 args h = xa env (x2 env L n) L h.length [] ([]) x13w xgb (args ++ List.replicate (Try.f97.ntmps - args.length) (.d .undef)) h (kFin env.P h.length false [.tmp 3]) :=
 xq (mode := 0) (by kernel_rfl) Try.func97 (by kernel_rfl) (by kernel_rfl) x12c (by kernel_rfl) (by kernel_rfl)
noncomputable def xbv : SC := x12 Try.f100
noncomputable def x5v : Nat → Code := lpOf Try.f100
theorem xhk : xe (xn Try.f100) = true := by kernel_rfl
theorem x11i : x2 env L (n + 1) 100 args h = xa env (x2 env L n) L h.length [] (Z2 (U2 (Z2 (U2 (U1 (Z8 (Z1 ([])))))))) x5v xbv (args ++ List.replicate (Try.f100.ntmps - args.length) (.d .undef)) h (kFin env.P h.length false [.tmp 2]) :=
 xq (mode := 1) (by kernel_rfl) Try.func100 (by kernel_rfl) (by kernel_rfl) xhk (by kernel_rfl) (by kernel_rfl)
noncomputable def x6x : SC := x1f Try.f100 0
theorem xgd : xc env call L nf thaw live (x5v 0) m (n + 1) s h k = xa env call L nf thaw live x5v x6x s h (x1d env call L nf thaw live (x5v 0) m n k) :=
 xi xhk (by kernel_rfl)
noncomputable def x55 : SC := x12 Try.f101
noncomputable def xnw : Nat → Code := lpOf Try.f101
theorem xot : xe (xn Try.f101) = true := by kernel_rfl
theorem xej : x2 env L (n + 1) 101 args h = xa env (x2 env L n) L h.length [] ([]) xnw x55 (args ++ List.replicate (Try.f101.ntmps - args.length) (.d .undef)) h (kFin env.P h.length false [.tmp 4]) :=
 xq (mode := 1) (by kernel_rfl) Try.func101 (by kernel_rfl) (by kernel_rfl) xot (by kernel_rfl) (by kernel_rfl)
noncomputable def x3s : SC := x12 Try.f102
noncomputable def xiv : Nat → Code := lpOf Try.f102
theorem xiz : xe (xn Try.f102) = true := by kernel_rfl
theorem xbq : x2 env L (n + 1) 102 args h = xa env (x2 env L n) L h.length [] ([]) xiv x3s (args ++ List.replicate (Try.f102.ntmps - args.length) (.d .undef)) h (kFin env.P h.length false [.tmp 4]) :=
 xq (mode := 1) (by kernel_rfl) Try.func102 (by kernel_rfl) (by kernel_rfl) xiz (by kernel_rfl) (by kernel_rfl)
noncomputable def x16p : SC := x12 Try.f108
noncomputable def x7q : Nat → Code := lpOf Try.f108
theorem xss : xe (xn Try.f108) = true := by kernel_rfl
theorem x1js : x2 env L (n + 1) 108 args h = xa env (x2 env L n) L h.length [] (Z1 (U4 (U1 (Z32 (Z2 (Z1 ([]))))))) x7q x16p (args ++ List.replicate (Try.f108.ntmps - args.length) (.d .undef)) h (kFin env.P h.length false [.tmp 2]) :=
 xq (mode := 2) (by kernel_rfl) Try.func108 (by kernel_rfl) (by kernel_rfl) xss (by kernel_rfl) (by kernel_rfl)
noncomputable def xpp : SC := x1f Try.f108 0
theorem xtm : xc env call L nf thaw live (x7q 0) m (n + 1) s h k = xa env call L nf thaw live x7q xpp s h (x1d env call L nf thaw live (x7q 0) m n k) :=
 xi xss (by kernel_rfl)
noncomputable def xpj : SC := x1f Try.f108 1
theorem xte : xc env call L nf thaw live (x7q 1) m (n + 1) s h k = xa env call L nf thaw live x7q xpj s h (x1d env call L nf thaw live (x7q 1) m n k) :=
 xi xss (by kernel_rfl)
noncomputable def x16g : SC := x12 Try.f109
noncomputable def x7k : Nat → Code := lpOf Try.f109
theorem xrm : xe (xn Try.f109) = true := by kernel_rfl
theorem x1me : x2 env L (n + 1) 109 args h = xa env (x2 env L n) L h.length [] (Z1 (U2 (U1 (Z2 (U4 (U2 (U1 (Z32 (Z2 (Z1 ([]))))))))))) x7k x16g (args ++ List.replicate (Try.f109.ntmps - args.length) (.d .undef)) h (kFin env.P h.length false [.tmp 6]) :=
 xq (mode := 2) (by kernel_rfl) Try.func109 (by kernel_rfl) (by kernel_rfl) xrm (by kernel_rfl) (by kernel_rfl)
noncomputable def xpt : SC := x1f Try.f109 0
theorem xsy : xc env call L nf thaw live (x7k 0) m (n + 1) s h k = xa env call L nf thaw live x7k xpt s h (x1d env call L nf thaw live (x7k 0) m n k) :=
 xi xrm (by kernel_rfl)
noncomputable def xpb : SC := x1f Try.f109 1
theorem xsa : xc env call L nf thaw live (x7k 1) m (n + 1) s h k = xa env call L nf thaw live x7k xpb s h (x1d env call L nf thaw live (x7k 1) m n k) :=
 xi xrm (by kernel_rfl)
noncomputable def x18c : SC := x12 Try.f110
noncomputable def x1ke : Nat → Code := lpOf Try.f110
theorem x1mg : xe (xn Try.f110) = true := by kernel_rfl
theorem x1l6 : x2 env L (n + 1) 110 args h = xa env (x2 env L n) L h.length [] (Z2 (U1 (Z2 (Z1 (U2 (Z32 (Z16 (Z8 ([]))))))))) x1ke x18c (args ++ List.replicate (Try.f110.ntmps - args.length) (.d .undef)) h (kFin env.P h.length false [.tmp 6]) :=
 xq (mode := 1) (by kernel_rfl) Try.func110 (by kernel_rfl) (by kernel_rfl) x1mg (by kernel_rfl) (by kernel_rfl)
noncomputable def x14j : SC := x12 Try.f111
noncomputable def xdc : Nat → Code := lpOf Try.f111
theorem x10n : xe (xn Try.f111) = true := by kernel_rfl
theorem x1ja : x2 env L (n + 1) 111 args h = xa env (x2 env L n) L h.length [] (U2 (Z2 (U2 (U1 (Z16 (Z8 (Z2 ([])))))))) xdc x14j (args ++ List.replicate (Try.f111.ntmps - args.length) (.d .undef)) h (kFin env.P h.length false [.tmp 4]) :=
 xq (mode := 2) (by kernel_rfl) Try.func111 (by kernel_rfl) (by kernel_rfl) x10n (by kernel_rfl) (by kernel_rfl)
noncomputable def xna : SC := x1f Try.f111 0
theorem xq3 : xc env call L nf thaw live (xdc 0) m (n + 1) s h k = xa env call L nf thaw live xdc xna s h (x1d env call L nf thaw live (xdc 0) m n k) :=
 xi x10n (by kernel_rfl)
noncomputable def x1da : SC := x12 Try.f112
noncomputable def x7e : Nat → Code := lpOf Try.f112
theorem xvz : xe (xn Try.f112) = true := by kernel_rfl
theorem x1nz : x2 env L (n + 1) 112 args h = xa env (x2 env L n) L h.length [] (U2 (Z2 (U2 (U1 (Z16 (Z8 (Z4 ([])))))))) x7e x1da (args ++ List.replicate (Try.f112.ntmps - args.length) (.d .undef)) h (kFin env.P h.length false []) :=
 xq (mode := 0) (by kernel_rfl) Try.func112 (by kernel_rfl) (by kernel_rfl) xvz (by kernel_rfl) (by kernel_rfl)
noncomputable def xjz : SC := x1f Try.f112 0
theorem xjy : xc env call L nf thaw live (x7e 0) m (n + 1) s h k = xa env call L nf thaw live x7e xjz s h (x1d env call L nf thaw live (x7e 0) m n k) :=
 xi xvz (by kernel_rfl)
noncomputable def xev : SC := x1f Try.f112 1
theorem xe5 : xc env call L nf thaw live (x7e 1) m (n + 1) s h k = xa env call L nf thaw live x7e xev s h (x1d env call L nf thaw live (x7e 1) m n k) :=
 xi xvz (by kernel_rfl)
noncomputable def x13g : SC := x12 Try.f113
noncomputable def xdb : Nat → Code := lpOf Try.f113
theorem x10i : xe (xn Try.f113) = true := by kernel_rfl
theorem x1j9 : x2 env L (n + 1) 113 args h = xa env (x2 env L n) L h.length [] (U2 (Z2 (U2 (U1 (Z16 (Z2 ([]))))))) xdb x13g (args ++ List.replicate (Try.f113.ntmps - args.length) (.d .undef)) h (kFin env.P h.length false [.tmp 4]) :=
 xq (mode := 1) (by kernel_rfl) Try.func113 (by kernel_rfl) (by kernel_rfl) x10i (by kernel_rfl) (by kernel_rfl)
noncomputable def xmt : SC := x1f Try.f113 0
theorem xqb : xc env call L nf thaw live (xdb 0) m (n + 1) s h k = xa env call L nf thaw live xdb xmt s h (x1d env call L nf thaw live (xdb 0) m n k) :=
 xi x10i (by kernel_rfl)
noncomputable def x13v : SC := x12 Try.f114
noncomputable def x6o : Nat → Code := lpOf Try.f114
theorem xpm : xe (xn Try.f114) = true := by kernel_rfl
theorem x1jk : x2 env L (n + 1) 114 args h = xa env (x2 env L n) L h.length [] (U4 (U1 (Z4 (Z1 (U4 (U1 (Z32 (Z16 (Z1 ([])))))))))) x6o x13v (args ++ List.replicate (Try.f114.ntmps - args.length) (.d .undef)) h (kFin env.P h.length false [.tmp 10]) :=
 xq (mode := 2) (by kernel_rfl) Try.func114 (by kernel_rfl) (by kernel_rfl) xpm (by kernel_rfl) (by kernel_rfl)
noncomputable def xms : SC := x1f Try.f114 0
theorem xq4 : xc env call L nf thaw live (x6o 0) m (n + 1) s h k = xa env call L nf thaw live x6o xms s h (x1d env call L nf thaw live (x6o 0) m n k) :=
 xi xpm (by kernel_rfl)
noncomputable def xca : SC := x1f Try.f114 1
theorem xbk : xc env call L nf thaw live (x6o 1) m (n + 1) s h k = xa env call L nf thaw live x6o xca s h (x1d env call L nf thaw live (x6o 1) m n k) :=
 xi xpm (by kernel_rfl)
noncomputable def x1cd : SC := x12 Try.f115
noncomputable def x1oy : Nat → Code := lpOf Try.f115
theorem x1oz : xe (xn Try.f115) = true := by kernel_rfl
theorem x1on : x2 env L (n + 1) 115 args h = xa env (x2 env L n) L h.length [] ([]) x1oy x1cd (args ++ List.replicate (Try.f115.ntmps - args.length) (.d .undef)) h (kFin env.P h.length false [.tmp 2]) :=
 xq (mode := 1) (by kernel_rfl) Try.func115 (by kernel_rfl) (by kernel_rfl) x1oz (by kernel_rfl) (by kernel_rfl)
noncomputable def xhr : SC := x12 Try.f117
noncomputable def x38 : Nat → Code := lpOf Try.f117
theorem xff : xe (xn Try.f117) = true := by kernel_rfl
theorem xn9 : x2 env L (n + 1) 117 args h = xa env (x2 env L n) L h.length [0,0,0,0,0,0,0,0,0,0,0,0,0,0,0,0,0,0,2] (Z2 (U2 (Z4 (Z2 (U2 (Z1 (U2 (U1 (Z1 (U2 (Z8 (Z4 (Z2 (U2 (U1 (Z4 (Z2 (Z1 (U2 (U1 (Z16 (Z1 ([]))))))))))))))))))))))) x38 xhr (args ++ List.replicate (Try.f117.ntmps - args.length) (.d .undef)) h (kFin env.P h.length false [.tmp 10,.tmp 11]) :=
 xq (mode := 1) (by kernel_rfl) Try.func117 (by kernel_rfl) (by kernel_rfl) xff (by kernel_rfl) (by kernel_rfl)
noncomputable def xax : SC := x1f Try.f117 0
theorem xat : xc env call L nf thaw live (x38 0) m (n + 1) s h k = xa env call L nf thaw live x38 xax s h (x1d env call L nf thaw live (x38 0) m n k) :=
 xi xff (by kernel_rfl)
noncomputable def xe0 : SC := x1f Try.f117 1
theorem xex : xc env call L nf thaw live (x38 1) m (n + 1) s h k = xa env call L nf thaw live x38 xe0 s h (x1d env call L nf thaw live (x38 1) m n k) :=
 xi xff (by kernel_rfl)
noncomputable def xjf : SC := x1f Try.f117 2
theorem xo8 : xc env call L nf thaw live (x38 2) m (n + 1) s h k = xa env call L nf thaw live x38 xjf s h (x1d env call L nf thaw live (x38 2) m n k) :=
 xi xff (by kernel_rfl)
noncomputable def x18v : SC := x12 Try.f119
noncomputable def xp1 : Nat → Code := lpOf Try.f119
theorem x1fs : xe (xn Try.f119) = true := by kernel_rfl
theorem x1fv : x2 env L (n + 1) 119 args h = xa env (x2 env L n) L h.length [] (U2 (Z2 (U2 (Z8 (Z4 ([])))))) xp1 x18v (args ++ List.replicate (Try.f119.ntmps - args.length) (.d .undef)) h (kFin env.P h.length false [.tmp 4]) :=
 xq (mode := 1) (by kernel_rfl) Try.func119 (by kernel_rfl) (by kernel_rfl) x1fs (by kernel_rfl) (by kernel_rfl)
noncomputable def xqm : SC := x1f Try.f119 0
theorem xp5 : xc env call L nf thaw live (xp1 0) m (n + 1) s h k = xa env call L nf thaw live xp1 xqm s h (x1d env call L nf thaw live (xp1 0) m n k) :=
 xi x1fs (by kernel_rfl)
noncomputable def xsp : SC := x12 Try.f120
noncomputable def x15s : Nat → Code := lpOf Try.f120
theorem x160 : xe (xn Try.f120) = true := by kernel_rfl
theorem x168 : x2 env L (n + 1) 120 args h = xa env (x2 env L n) L h.length [] ([]) x15s xsp (args ++ List.replicate (Try.f120.ntmps - args.length) (.d .undef)) h (kFin env.P h.length false [.tmp 7]) :=
 xq (mode := 0) (by kernel_rfl) Try.func120 (by kernel_rfl) (by kernel_rfl) x160 (by kernel_rfl) (by kernel_rfl)
noncomputable def xe6 : SC := x12 Try.f131
noncomputable def xsb : Nat → Code := lpOf Try.f131
theorem xt6 : xe (xn Try.f131) = true := by kernel_rfl
theorem x1a2 : x2 env L (n + 1) 131 args h = xa env (x2 env L n) L h.length [] ([]) xsb xe6 (args ++ List.replicate (Try.f131.ntmps - args.length) (.d .undef)) h (kFin env.P h.length false [.tmp 2]) :=
 xq (mode := 1) (by kernel_rfl) Try.func131 (by kernel_rfl) (by kernel_rfl) xt6 (by kernel_rfl) (by kernel_rfl)
noncomputable def xay : SC := x12 Try.f132
noncomputable def xm0 : Nat → Code := lpOf Try.f132
theorem xlh : xe (xn Try.f132) = true := by kernel_rfl
theorem x122 : x2 env L (n + 1) 132 args h = xa env (x2 env L n) L h.length [] ([]) xm0 xay (args ++ List.replicate (Try.f132.ntmps - args.length) (.d .undef)) h (kFin env.P h.length false [.tmp 2]) :=
 xq (mode := 1) (by kernel_rfl) Try.func132 (by kernel_rfl) (by kernel_rfl) xlh (by kernel_rfl) (by kernel_rfl)
noncomputable def x17g : SC := x12 Try.f139
noncomputable def x4f : Nat → Code := lpOf Try.f139
theorem xjp : xe (xn Try.f139) = true := by kernel_rfl
theorem x1n2 : x2 env L (n + 1) 139 args h = xa env (x2 env L n) L h.length [] (Z1 (U4 (Z2 (Z1 (U4 (U2 (U1 (Z32 (Z8 (Z4 (Z2 (Z1 ([]))))))))))))) x4f x17g (args ++ List.replicate (Try.f139.ntmps - args.length) (.d .undef)) h (kFin env.P h.length false [.tmp 8]) :=
 xq (mode := 2) (by kernel_rfl) Try.func139 (by kernel_rfl) (by kernel_rfl) xjp (by kernel_rfl) (by kernel_rfl)
noncomputable def xpa : SC := x1f Try.f139 0
theorem xsx : xc env call L nf thaw live (x4f 0) m (n + 1) s h k = xa env call L nf thaw live x4f xpa s h (x1d env call L nf thaw live (x4f 0) m n k) :=
 xi xjp (by kernel_rfl)
noncomputable def xpl : SC := x1f Try.f139 1
theorem xre : xc env call L nf thaw live (x4f 1) m (n + 1) s h k = xa env call L nf thaw live x4f xpl s h (x1d env call L nf thaw live (x4f 1) m n k) :=
 xi xjp (by kernel_rfl)
noncomputable def xpd : SC := x1f Try.f139 2
theorem xse : xc env call L nf thaw live (x4f 2) m (n + 1) s h k = xa env call L nf thaw live x4f xpd s h (x1d env call L nf thaw live (x4f 2) m n k) :=
 xi xjp (by kernel_rfl)
noncomputable def x1k1 : SC := x12 Try.f140
noncomputable def x1wh : Nat → Code := lpOf Try.f140
theorem x1ut : xe (xn Try.f140) = true := by kernel_rfl
theorem x1wi : x2 env L (n + 1) 140 args h = xa env (x2 env L n) L h.length [] ([]) x1wh x1k1 (args ++ List.replicate (Try.f140.ntmps - args.length) (.d .undef)) h (kFin env.P h.length false [.tmp 6]) :=
 xq (mode := 1) (by kernel_rfl) Try.func140 (by kernel_rfl) (by kernel_rfl) x1ut (by kernel_rfl) (by kernel_rfl)
noncomputable def x10a : SC := x12 Try.f141
noncomputable def x8t : Nat → Code := lpOf Try.f141
theorem xw9 : xe (xn Try.f141) = true := by kernel_rfl
theorem x17v : x2 env L (n + 1) 141 args h = xa env (x2 env L n) L h.length [] (U2 (U1 (Z2 (Z1 (U2 (U1 (Z16 (Z8 (Z2 (Z1 ([]))))))))))) x8t x10a (args ++ List.replicate (Try.f141.ntmps - args.length) (.d .undef)) h (kFin env.P h.length false [.tmp 6]) :=
 xq (mode := 1) (by kernel_rfl) Try.func141 (by kernel_rfl) (by kernel_rfl) xw9 (by kernel_rfl) (by kernel_rfl)
noncomputable def xl0 : SC := x1f Try.f141 0
theorem xl5 : xc env call L nf thaw live (x8t 0) m (n + 1) s h k = xa env call L nf thaw live x8t xl0 s h (x1d env call L nf thaw live (x8t 0) m n k) :=
 xi xw9 (by kernel_rfl)
noncomputable def xks : SC := x1f Try.f141 1
theorem xl3 : xc env call L nf thaw live (x8t 1) m (n + 1) s h k = xa env call L nf thaw live x8t xks s h (x1d env call L nf thaw live (x8t 1) m n k) :=
 xi xw9 (by kernel_rfl)
noncomputable def xd0 : SC := x12 Try.f142
noncomputable def x7r : Nat → Code := lpOf Try.f142
theorem xpy : xe (xn Try.f142) = true := by kernel_rfl
theorem xga : x2 env L (n + 1) 142 args h = xa env (x2 env L n) L h.length [0,0,0,0,0,0,0,0,0,0,2] (U2 (Z1 (U2 (U1 (Z2 (Z1 (U2 (U1 (Z2 (U2 (U1 (Z32 (Z1 ([])))))))))))))) x7r xd0 (args ++ List.replicate (Try.f142.ntmps - args.length) (.d .undef)) h (kFin env.P h.length false [.tmp 9]) :=
 xq (mode := 0) (by kernel_rfl) Try.func142 (by kernel_rfl) (by kernel_rfl) xpy (by kernel_rfl) (by kernel_rfl)
noncomputable def x2v : SC := x1f Try.f142 0
theorem x2o : xc env call L nf thaw live (x7r 0) m (n + 1) s h k = xa env call L nf thaw live x7r x2v s h (x1d env call L nf thaw live (x7r 0) m n k) :=
 xi xpy (by kernel_rfl)
noncomputable def x13k : SC := x12 Try.f143
noncomputable def xda : Nat → Code := lpOf Try.f143
theorem x113 : xe (xn Try.f143) = true := by kernel_rfl
theorem x1jb : x2 env L (n + 1) 143 args h = xa env (x2 env L n) L h.length [0,0,0,2] (U1 (Z1 (U2 (U1 (Z16 (Z8 (Z2 (Z1 ([]))))))))) xda x13k (args ++ List.replicate (Try.f143.ntmps - args.length) (.d .undef)) h (kFin env.P h.length false [.tmp 2]) :=
 xq (mode := 1) (by kernel_rfl) Try.func143 (by kernel_rfl) (by kernel_rfl) x113 (by kernel_rfl) (by kernel_rfl)
noncomputable def xn4 : SC := x1f Try.f143 0
theorem xpz : xc env call L nf thaw live (xda 0) m (n + 1) s h k = xa env call L nf thaw live xda xn4 s h (x1d env call L nf thaw live (xda 0) m n k) :=
 xi x113 (by kernel_rfl)
noncomputable def x11s : SC := x12 Try.f152
noncomputable def x1e4 : Nat → Code := lpOf Try.f152
theorem x1ee : xe (xn Try.f152) = true := by kernel_rfl
theorem x1fc : x2 env L (n + 1) 152 args h = xa env (x2 env L n) L h.length [] (Z2 (U2 (Z4 (U4 (Z32 (Z32 (Z2 (Z1 ([]))))))))) x1e4 x11s (args ++ List.replicate (Try.f152.ntmps - args.length) (.d .undef)) h (kFin env.P h.length false [.tmp 8]) :=
 xq (mode := 2) (by kernel_rfl) Try.func152 (by kernel_rfl) (by kernel_rfl) x1ee (by kernel_rfl) (by kernel_rfl)
end
end Ev
end Go.Proofs.Ytppdfjdfjfoddaa
