/-
  Each function's code as an equation. Written by a program.
-/
import Derived.Test.YtppdfjdfjfoddaaEnv
set_option maxRecDepth 100000
namespace Go.Proofs.Ytppdfjdfjfoddaa
namespace Ev
noncomputable def x4d : SC := slimF Try.f4
noncomputable def xgh : Nat → Code := lpOf Try.f4
theorem xgf : drawsOK (codeOf Try.f4) = true := by kernel_rfl
theorem x5k {L n : Nat} {args : List A} {h : H} : evCall env L (n + 1) 4 args h = kCode env (evCall env L n) L h.length [] ([]) xgh x4d (args ++ List.replicate (Try.f4.ntmps - args.length) (.d .undef)) h (kFin env.P h.length false [.tmp 2]) :=
 x5 (mode := 1) (by kernel_rfl) Try.func4 (by kernel_rfl) (by kernel_rfl) xgf (by kernel_rfl) (by kernel_rfl)
noncomputable def x3a : SC := slimF Try.f15
noncomputable def x1p : Nat → Code := lpOf Try.f15
theorem x7l : drawsOK (codeOf Try.f15) = true := by kernel_rfl
theorem x3o {L n : Nat} {args : List A} {h : H} : evCall env L (n + 1) 15 args h = kCode env (evCall env L n) L h.length [] (Z1 (U2 (U1 (Z32 (Z2 (U2 (U1 (Z4 (Z2 (Z1 (U2 (U1 (Z8 (Z4 (Z2 ([])))))))))))))))) x1p x3a (args ++ List.replicate (Try.f15.ntmps - args.length) (.d .undef)) h (kFin env.P h.length false [.tmp 2]) :=
 x5 (mode := 1) (by kernel_rfl) Try.func15 (by kernel_rfl) (by kernel_rfl) x7l (by kernel_rfl) (by kernel_rfl)
noncomputable def x4f : SC := slimL Try.f15 0
theorem x4r {R : Type} {call : CallF} {L nf n : Nat} {thaw : List Nat} {live m : List Bool} {s : List A} {h : H} {k : Exit → List A → H → Option R} : kLoop env call L nf thaw live (x1p 0) m (n + 1) s h k = kCode env call L nf thaw live x1p x4f s h (kNext env call L nf thaw live (x1p 0) m n k) :=
 kLoop_step x7l (by kernel_rfl)
noncomputable def x49 : SC := slimL Try.f15 1
theorem x4q {R : Type} {call : CallF} {L nf n : Nat} {thaw : List Nat} {live m : List Bool} {s : List A} {h : H} {k : Exit → List A → H → Option R} : kLoop env call L nf thaw live (x1p 1) m (n + 1) s h k = kCode env call L nf thaw live x1p x49 s h (kNext env call L nf thaw live (x1p 1) m n k) :=
 kLoop_step x7l (by kernel_rfl)
noncomputable def xam : SC := slimF Try.f16
noncomputable def xrp : Nat → Code := lpOf Try.f16
theorem xrr : drawsOK (codeOf Try.f16) = true := by kernel_rfl
theorem xdk {L n : Nat} {args : List A} {h : H} : evCall env L (n + 1) 16 args h = kCode env (evCall env L n) L h.length [] ([]) xrp xam (args ++ List.replicate (Try.f16.ntmps - args.length) (.d .undef)) h (kFin env.P h.length false [.tmp 4]) :=
 x5 (mode := 1) (by kernel_rfl) Try.func16 (by kernel_rfl) (by kernel_rfl) xrr (by kernel_rfl) (by kernel_rfl)
noncomputable def x7m : SC := slimF Try.f17
noncomputable def x1k : Nat → Code := lpOf Try.f17
theorem x74 : drawsOK (codeOf Try.f17) = true := by kernel_rfl
theorem xbo {L n : Nat} {args : List A} {h : H} : evCall env L (n + 1) 17 args h = kCode env (evCall env L n) L h.length [] (Z1 (U4 (U1 (Z32 (Z8 (Z1 ([]))))))) x1k x7m (args ++ List.replicate (Try.f17.ntmps - args.length) (.d .undef)) h (kFin env.P h.length false [.tmp 2]) :=
 x5 (mode := 2) (by kernel_rfl) Try.func17 (by kernel_rfl) (by kernel_rfl) x74 (by kernel_rfl) (by kernel_rfl)
noncomputable def x6l : SC := slimL Try.f17 0
theorem x8q {R : Type} {call : CallF} {L nf n : Nat} {thaw : List Nat} {live m : List Bool} {s : List A} {h : H} {k : Exit → List A → H → Option R} : kLoop env call L nf thaw live (x1k 0) m (n + 1) s h k = kCode env call L nf thaw live x1k x6l s h (kNext env call L nf thaw live (x1k 0) m n k) :=
 kLoop_step x74 (by kernel_rfl)
noncomputable def x3v : SC := slimL Try.f17 1
theorem x4b {R : Type} {call : CallF} {L nf n : Nat} {thaw : List Nat} {live m : List Bool} {s : List A} {h : H} {k : Exit → List A → H → Option R} : kLoop env call L nf thaw live (x1k 1) m (n + 1) s h k = kCode env call L nf thaw live x1k x3v s h (kNext env call L nf thaw live (x1k 1) m n k) :=
 kLoop_step x74 (by kernel_rfl)
noncomputable def xl0 : SC := slimF Try.f18
noncomputable def xrv : Nat → Code := lpOf Try.f18
theorem xsa : drawsOK (codeOf Try.f18) = true := by kernel_rfl
theorem xs7 {L n : Nat} {args : List A} {h : H} : evCall env L (n + 1) 18 args h = kCode env (evCall env L n) L h.length [] ([]) xrv xl0 (args ++ List.replicate (Try.f18.ntmps - args.length) (.d .undef)) h (kFin env.P h.length true Try.f18.results.toList) :=
 x5 (mode := 2) (by kernel_rfl) Try.func18 (by kernel_rfl) (by kernel_rfl) xsa (by kernel_rfl) (by kernel_rfl)
noncomputable def x7o : SC := slimF Try.f19
noncomputable def x1l : Nat → Code := lpOf Try.f19
theorem x71 : drawsOK (codeOf Try.f19) = true := by kernel_rfl
theorem xc9 {L n : Nat} {args : List A} {h : H} : evCall env L (n + 1) 19 args h = kCode env (evCall env L n) L h.length [] (Z1 (U4 (U1 (Z8 (U2 (Z16 (Z8 (Z4 (Z2 (Z1 ([]))))))))))) x1l x7o (args ++ List.replicate (Try.f19.ntmps - args.length) (.d .undef)) h (kFin env.P h.length true [.tmp 2]) :=
 x5 (mode := 3) (by kernel_rfl) Try.func19 (by kernel_rfl) (by kernel_rfl) x71 (by kernel_rfl) (by kernel_rfl)
noncomputable def x6n : SC := slimL Try.f19 0
theorem x8d {R : Type} {call : CallF} {L nf n : Nat} {thaw : List Nat} {live m : List Bool} {s : List A} {h : H} {k : Exit → List A → H → Option R} : kLoop env call L nf thaw live (x1l 0) m (n + 1) s h k = kCode env call L nf thaw live x1l x6n s h (kNext env call L nf thaw live (x1l 0) m n k) :=
 kLoop_step x71 (by kernel_rfl)
noncomputable def x3u : SC := slimL Try.f19 1
theorem x4c {R : Type} {call : CallF} {L nf n : Nat} {thaw : List Nat} {live m : List Bool} {s : List A} {h : H} {k : Exit → List A → H → Option R} : kLoop env call L nf thaw live (x1l 1) m (n + 1) s h k = kCode env call L nf thaw live x1l x3u s h (kNext env call L nf thaw live (x1l 1) m n k) :=
 kLoop_step x71 (by kernel_rfl)
noncomputable def xou : SC := slimF Try.f20
noncomputable def x84 : Nat → Code := lpOf Try.f20
theorem xm4 : drawsOK (codeOf Try.f20) = true := by kernel_rfl
theorem xuc {L n : Nat} {args : List A} {h : H} : evCall env L (n + 1) 20 args h = kCode env (evCall env L n) L h.length [] (U2 (Z2 (U2 (Z16 (Z4 ([])))))) x84 xou (args ++ List.replicate (Try.f20.ntmps - args.length) (.d .undef)) h (kFin env.P h.length false [.tmp 4]) :=
 x5 (mode := 1) (by kernel_rfl) Try.func20 (by kernel_rfl) (by kernel_rfl) xm4 (by kernel_rfl) (by kernel_rfl)
noncomputable def xfk : SC := slimL Try.f20 0
theorem xh9 {R : Type} {call : CallF} {L nf n : Nat} {thaw : List Nat} {live m : List Bool} {s : List A} {h : H} {k : Exit → List A → H → Option R} : kLoop env call L nf thaw live (x84 0) m (n + 1) s h k = kCode env call L nf thaw live x84 xfk s h (kNext env call L nf thaw live (x84 0) m n k) :=
 kLoop_step xm4 (by kernel_rfl)
noncomputable def xle : SC := slimF Try.f21
noncomputable def xs8 : Nat → Code := lpOf Try.f21
theorem xs9 : drawsOK (codeOf Try.f21) = true := by kernel_rfl
theorem xs4 {L n : Nat} {args : List A} {h : H} : evCall env L (n + 1) 21 args h = kCode env (evCall env L n) L h.length [] ([]) xs8 xle (args ++ List.replicate (Try.f21.ntmps - args.length) (.d .undef)) h (kFin env.P h.length false [.tmp 4]) :=
 x5 (mode := 1) (by kernel_rfl) Try.func21 (by kernel_rfl) (by kernel_rfl) xs9 (by kernel_rfl) (by kernel_rfl)
noncomputable def xi6 : SC := slimF Try.f22
noncomputable def xpf : Nat → Code := lpOf Try.f22
theorem xpo : drawsOK (codeOf Try.f22) = true := by kernel_rfl
theorem xpm {L n : Nat} {args : List A} {h : H} : evCall env L (n + 1) 22 args h = kCode env (evCall env L n) L h.length [] ([]) xpf xi6 (args ++ List.replicate (Try.f22.ntmps - args.length) (.d .undef)) h (kFin env.P h.length false [.tmp 4]) :=
 x5 (mode := 0) (by kernel_rfl) Try.func22 (by kernel_rfl) (by kernel_rfl) xpo (by kernel_rfl) (by kernel_rfl)
noncomputable def xf9 : SC := slimF Try.f23
noncomputable def x5p : Nat → Code := lpOf Try.f23
theorem xkc : drawsOK (codeOf Try.f23) = true := by kernel_rfl
theorem xjz {L n : Nat} {args : List A} {h : H} : evCall env L (n + 1) 23 args h = kCode env (evCall env L n) L h.length [] (U2 (Z2 (U2 (Z8 (Z4 (Z2 ([]))))))) x5p xf9 (args ++ List.replicate (Try.f23.ntmps - args.length) (.d .undef)) h (kFin env.P h.length false [.tmp 4]) :=
 x5 (mode := 0) (by kernel_rfl) Try.func23 (by kernel_rfl) (by kernel_rfl) xkc (by kernel_rfl) (by kernel_rfl)
noncomputable def x7t : SC := slimL Try.f23 0
theorem x7z {R : Type} {call : CallF} {L nf n : Nat} {thaw : List Nat} {live m : List Bool} {s : List A} {h : H} {k : Exit → List A → H → Option R} : kLoop env call L nf thaw live (x5p 0) m (n + 1) s h k = kCode env call L nf thaw live x5p x7t s h (kNext env call L nf thaw live (x5p 0) m n k) :=
 kLoop_step xkc (by kernel_rfl)
noncomputable def xl4 : SC := slimF Try.f24
noncomputable def x6v : Nat → Code := lpOf Try.f24
theorem xk8 : drawsOK (codeOf Try.f24) = true := by kernel_rfl
theorem xru {L n : Nat} {args : List A} {h : H} : evCall env L (n + 1) 24 args h = kCode env (evCall env L n) L h.length [] (U2 (Z2 (U2 (Z16 ([]))))) x6v xl4 (args ++ List.replicate (Try.f24.ntmps - args.length) (.d .undef)) h (kFin env.P h.length false [.tmp 4]) :=
 x5 (mode := 1) (by kernel_rfl) Try.func24 (by kernel_rfl) (by kernel_rfl) xk8 (by kernel_rfl) (by kernel_rfl)
noncomputable def xcj : SC := slimL Try.f24 0
theorem xec {R : Type} {call : CallF} {L nf n : Nat} {thaw : List Nat} {live m : List Bool} {s : List A} {h : H} {k : Exit → List A → H → Option R} : kLoop env call L nf thaw live (x6v 0) m (n + 1) s h k = kCode env call L nf thaw live x6v xcj s h (kNext env call L nf thaw live (x6v 0) m n k) :=
 kLoop_step xk8 (by kernel_rfl)
noncomputable def xok : SC := slimF Try.f36
noncomputable def x2b : Nat → Code := lpOf Try.f36
theorem xbd : drawsOK (codeOf Try.f36) = true := by kernel_rfl
theorem xtm {L n : Nat} {args : List A} {h : H} : evCall env L (n + 1) 36 args h = kCode env (evCall env L n) L h.length [] (Z2 (U4 (U1 (Z8 (Z2 (Z1 (U2 (U1 (Z4 (U1 (Z8 (Z1 (U2 (U1 (Z16 ([])))))))))))))))) x2b xok (args ++ List.replicate (Try.f36.ntmps - args.length) (.d .undef)) h (kFin env.P h.length false [.tmp 2]) :=
 x5 (mode := 2) (by kernel_rfl) Try.func36 (by kernel_rfl) (by kernel_rfl) xbd (by kernel_rfl) (by kernel_rfl)
noncomputable def xfe : SC := slimL Try.f36 0
theorem xhy {R : Type} {call : CallF} {L nf n : Nat} {thaw : List Nat} {live m : List Bool} {s : List A} {h : H} {k : Exit → List A → H → Option R} : kLoop env call L nf thaw live (x2b 0) m (n + 1) s h k = kCode env call L nf thaw live x2b xfe s h (kNext env call L nf thaw live (x2b 0) m n k) :=
 kLoop_step xbd (by kernel_rfl)
noncomputable def xfg : SC := slimL Try.f36 1
theorem xhr {R : Type} {call : CallF} {L nf n : Nat} {thaw : List Nat} {live m : List Bool} {s : List A} {h : H} {k : Exit → List A → H → Option R} : kLoop env call L nf thaw live (x2b 1) m (n + 1) s h k = kCode env call L nf thaw live x2b xfg s h (kNext env call L nf thaw live (x2b 1) m n k) :=
 kLoop_step xbd (by kernel_rfl)
noncomputable def xfd : SC := slimL Try.f36 2
theorem xh2 {R : Type} {call : CallF} {L nf n : Nat} {thaw : List Nat} {live m : List Bool} {s : List A} {h : H} {k : Exit → List A → H → Option R} : kLoop env call L nf thaw live (x2b 2) m (n + 1) s h k = kCode env call L nf thaw live x2b xfd s h (kNext env call L nf thaw live (x2b 2) m n k) :=
 kLoop_step xbd (by kernel_rfl)
noncomputable def xlb : SC := slimF Try.f39
noncomputable def x5q : Nat → Code := lpOf Try.f39
theorem xjq : drawsOK (codeOf Try.f39) = true := by kernel_rfl
theorem xs3 {L n : Nat} {args : List A} {h : H} : evCall env L (n + 1) 39 args h = kCode env (evCall env L n) L h.length [0, 0, 0, 2] (U1 (Z1 (U2 (Z1 (U1 (Z8 (Z2 (Z1 ([]))))))))) x5q xlb (args ++ List.replicate (Try.f39.ntmps - args.length) (.d .undef)) h (kFin env.P h.length false [.tmp 2]) :=
 x5 (mode := 2) (by kernel_rfl) Try.func39 (by kernel_rfl) (by kernel_rfl) xjq (by kernel_rfl) (by kernel_rfl)
noncomputable def x7u : SC := slimL Try.f39 0
theorem x8i {R : Type} {call : CallF} {L nf n : Nat} {thaw : List Nat} {live m : List Bool} {s : List A} {h : H} {k : Exit → List A → H → Option R} : kLoop env call L nf thaw live (x5q 0) m (n + 1) s h k = kCode env call L nf thaw live x5q x7u s h (kNext env call L nf thaw live (x5q 0) m n k) :=
 kLoop_step xjq (by kernel_rfl)
noncomputable def x3b : SC := slimF Try.f41
noncomputable def x4x : Nat → Code := lpOf Try.f41
theorem xde : drawsOK (codeOf Try.f41) = true := by kernel_rfl
theorem x3p {L n : Nat} {args : List A} {h : H} : evCall env L (n + 1) 41 args h = kCode env (evCall env L n) L h.length [] (Z1 (U4 (Z32 (Z4 (Z2 (Z1 ([]))))))) x4x x3b (args ++ List.replicate (Try.f41.ntmps - args.length) (.d .undef)) h (kFin env.P h.length false [.tmp 2]) :=
 x5 (mode := 1) (by kernel_rfl) Try.func41 (by kernel_rfl) (by kernel_rfl) xde (by kernel_rfl) (by kernel_rfl)
noncomputable def x5j : SC := slimL Try.f41 0
theorem x61 {R : Type} {call : CallF} {L nf n : Nat} {thaw : List Nat} {live m : List Bool} {s : List A} {h : H} {k : Exit → List A → H → Option R} : kLoop env call L nf thaw live (x4x 0) m (n + 1) s h k = kCode env call L nf thaw live x4x x5j s h (kNext env call L nf thaw live (x4x 0) m n k) :=
 kLoop_step xde (by kernel_rfl)
noncomputable def xl1 : SC := slimF Try.f44
noncomputable def x6k : Nat → Code := lpOf Try.f44
theorem xkd : drawsOK (codeOf Try.f44) = true := by kernel_rfl
theorem xrm {L n : Nat} {args : List A} {h : H} : evCall env L (n + 1) 44 args h = kCode env (evCall env L n) L h.length [] (U1 (Z1 (U2 (U1 (Z8 (Z4 (Z1 ([])))))))) x6k xl1 (args ++ List.replicate (Try.f44.ntmps - args.length) (.d .undef)) h (kFin env.P h.length false [.tmp 2]) :=
 x5 (mode := 2) (by kernel_rfl) Try.func44 (by kernel_rfl) (by kernel_rfl) xkd (by kernel_rfl) (by kernel_rfl)
noncomputable def x7w : SC := slimL Try.f44 0
theorem x8l {R : Type} {call : CallF} {L nf n : Nat} {thaw : List Nat} {live m : List Bool} {s : List A} {h : H} {k : Exit → List A → H → Option R} : kLoop env call L nf thaw live (x6k 0) m (n + 1) s h k = kCode env call L nf thaw live x6k x7w s h (kNext env call L nf thaw live (x6k 0) m n k) :=
 kLoop_step xkd (by kernel_rfl)
noncomputable def xp2 : SC := slimF Try.f45
noncomputable def xw8 : Nat → Code := lpOf Try.f45
theorem xw7 : drawsOK (codeOf Try.f45) = true := by kernel_rfl
theorem xsz {L n : Nat} {args : List A} {h : H} : evCall env L (n + 1) 45 args h = kCode env (evCall env L n) L h.length [] ([]) xw8 xp2 (args ++ List.replicate (Try.f45.ntmps - args.length) (.d .undef)) h (kFin env.P h.length false [.tmp 6]) :=
 x5 (mode := 1) (by kernel_rfl) Try.func45 (by kernel_rfl) (by kernel_rfl) xw7 (by kernel_rfl) (by kernel_rfl)
noncomputable def xkh : SC := slimF Try.f49
noncomputable def xqq : Nat → Code := lpOf Try.f49
theorem xql : drawsOK (codeOf Try.f49) = true := by kernel_rfl
theorem xrb {L n : Nat} {args : List A} {h : H} : evCall env L (n + 1) 49 args h = kCode env (evCall env L n) L h.length [] ([]) xqq xkh (args ++ List.replicate (Try.f49.ntmps - args.length) (.d .undef)) h (kFin env.P h.length false [.tmp 2]) :=
 x5 (mode := 1) (by kernel_rfl) Try.func49 (by kernel_rfl) (by kernel_rfl) xql (by kernel_rfl) (by kernel_rfl)
noncomputable def xk0 : SC := slimF Try.f50
noncomputable def xr0 : Nat → Code := lpOf Try.f50
theorem xqx : drawsOK (codeOf Try.f50) = true := by kernel_rfl
theorem xrj {L n : Nat} {args : List A} {h : H} : evCall env L (n + 1) 50 args h = kCode env (evCall env L n) L h.length [] ([]) xr0 xk0 (args ++ List.replicate (Try.f50.ntmps - args.length) (.d .undef)) h (kFin env.P h.length false [.tmp 2]) :=
 x5 (mode := 1) (by kernel_rfl) Try.func50 (by kernel_rfl) (by kernel_rfl) xqx (by kernel_rfl) (by kernel_rfl)
noncomputable def x7f : SC := slimF Try.f51
noncomputable def x1q : Nat → Code := lpOf Try.f51
theorem x6y : drawsOK (codeOf Try.f51) = true := by kernel_rfl
theorem xex {L n : Nat} {args : List A} {h : H} : evCall env L (n + 1) 51 args h = kCode env (evCall env L n) L h.length [] (U1 (Z1 (U2 (Z16 (Z8 ([])))))) x1q x7f (args ++ List.replicate (Try.f51.ntmps - args.length) (.d .undef)) h (kFin env.P h.length false []) :=
 x5 (mode := 0) (by kernel_rfl) Try.func51 (by kernel_rfl) (by kernel_rfl) x6y (by kernel_rfl) (by kernel_rfl)
noncomputable def x3j : SC := slimL Try.f51 0
theorem x3x {R : Type} {call : CallF} {L nf n : Nat} {thaw : List Nat} {live m : List Bool} {s : List A} {h : H} {k : Exit → List A → H → Option R} : kLoop env call L nf thaw live (x1q 0) m (n + 1) s h k = kCode env call L nf thaw live x1q x3j s h (kNext env call L nf thaw live (x1q 0) m n k) :=
 kLoop_step x6y (by kernel_rfl)
noncomputable def xix : SC := slimF Try.f54
noncomputable def xcf : Nat → Code := lpOf Try.f54
theorem xrd : drawsOK (codeOf Try.f54) = true := by kernel_rfl
theorem xkk {L n : Nat} {args : List A} {h : H} : evCall env L (n + 1) 54 args h = kCode env (evCall env L n) L h.length [] (U2 (Z2 (U2 (Z16 (Z4 (Z1 ([]))))))) xcf xix (args ++ List.replicate (Try.f54.ntmps - args.length) (.d .undef)) h (kFin env.P h.length false [.tmp 4]) :=
 x5 (mode := 1) (by kernel_rfl) Try.func54 (by kernel_rfl) (by kernel_rfl) xrd (by kernel_rfl) (by kernel_rfl)
noncomputable def xe4 : SC := slimL Try.f54 0
theorem xdv {R : Type} {call : CallF} {L nf n : Nat} {thaw : List Nat} {live m : List Bool} {s : List A} {h : H} {k : Exit → List A → H → Option R} : kLoop env call L nf thaw live (xcf 0) m (n + 1) s h k = kCode env call L nf thaw live xcf xe4 s h (kNext env call L nf thaw live (xcf 0) m n k) :=
 kLoop_step xrd (by kernel_rfl)
noncomputable def xn9 : SC := slimF Try.f55
noncomputable def xvh : Nat → Code := lpOf Try.f55
theorem xv8 : drawsOK (codeOf Try.f55) = true := by kernel_rfl
theorem xpz {L n : Nat} {args : List A} {h : H} : evCall env L (n + 1) 55 args h = kCode env (evCall env L n) L h.length [] ([]) xvh xn9 (args ++ List.replicate (Try.f55.ntmps - args.length) (.d .undef)) h (kFin env.P h.length false [.tmp 4]) :=
 x5 (mode := 1) (by kernel_rfl) Try.func55 (by kernel_rfl) (by kernel_rfl) xv8 (by kernel_rfl) (by kernel_rfl)
noncomputable def x64 : SC := slimF Try.f56
noncomputable def xpg : Nat → Code := lpOf Try.f56
theorem xp6 : drawsOK (codeOf Try.f56) = true := by kernel_rfl
theorem x7a {L n : Nat} {args : List A} {h : H} : evCall env L (n + 1) 56 args h = kCode env (evCall env L n) L h.length [] ([]) xpg x64 (args ++ List.replicate (Try.f56.ntmps - args.length) (.d .undef)) h (kFin env.P h.length false [.tmp 6, .tmp 7]) :=
 x5 (mode := 1) (by kernel_rfl) Try.func56 (by kernel_rfl) (by kernel_rfl) xp6 (by kernel_rfl) (by kernel_rfl)
noncomputable def xnd : SC := slimF Try.f57
noncomputable def xcl : Nat → Code := lpOf Try.f57
theorem xq8 : drawsOK (codeOf Try.f57) = true := by kernel_rfl
theorem xri {L n : Nat} {args : List A} {h : H} : evCall env L (n + 1) 57 args h = kCode env (evCall env L n) L h.length [] (U2 (Z2 (U2 (Z8 (Z4 ([])))))) xcl xnd (args ++ List.replicate (Try.f57.ntmps - args.length) (.d .undef)) h (kFin env.P h.length false [.tmp 4]) :=
 x5 (mode := 1) (by kernel_rfl) Try.func57 (by kernel_rfl) (by kernel_rfl) xq8 (by kernel_rfl) (by kernel_rfl)
noncomputable def xe5 : SC := slimL Try.f57 0
theorem xdy {R : Type} {call : CallF} {L nf n : Nat} {thaw : List Nat} {live m : List Bool} {s : List A} {h : H} {k : Exit → List A → H → Option R} : kLoop env call L nf thaw live (xcl 0) m (n + 1) s h k = kCode env call L nf thaw live xcl xe5 s h (kNext env call L nf thaw live (xcl 0) m n k) :=
 kLoop_step xq8 (by kernel_rfl)
noncomputable def xst : SC := slimF Try.f58
noncomputable def x8x : Nat → Code := lpOf Try.f58
theorem xqe : drawsOK (codeOf Try.f58) = true := by kernel_rfl
theorem xve {L n : Nat} {args : List A} {h : H} : evCall env L (n + 1) 58 args h = kCode env (evCall env L n) L h.length [0, 0, 0, 0, 0, 0, 0, 1002] (U1 (Z1 (U2 (U1 (Z16 (Z2 ([]))))))) x8x xst (args ++ List.replicate (Try.f58.ntmps - args.length) (.d .undef)) h (kFin env.P h.length true [.tmp 2]) :=
 x5 (mode := 2) (by kernel_rfl) Try.func58 (by kernel_rfl) (by kernel_rfl) xqe (by kernel_rfl) (by kernel_rfl)
noncomputable def xj1 : SC := slimL Try.f58 0
theorem xjh {R : Type} {call : CallF} {L nf n : Nat} {thaw : List Nat} {live m : List Bool} {s : List A} {h : H} {k : Exit → List A → H → Option R} : kLoop env call L nf thaw live (x8x 0) m (n + 1) s h k = kCode env call L nf thaw live x8x xj1 s h (kNext env call L nf thaw live (x8x 0) m n k) :=
 kLoop_step xqe (by kernel_rfl)
noncomputable def xsl : SC := slimF Try.f59
noncomputable def xco : Nat → Code := lpOf Try.f59
theorem xq4 : drawsOK (codeOf Try.f59) = true := by kernel_rfl
theorem xvm {L n : Nat} {args : List A} {h : H} : evCall env L (n + 1) 59 args h = kCode env (evCall env L n) L h.length [] (U1 (Z1 (U2 (U1 (Z16 (Z1 ([]))))))) xco xsl (args ++ List.replicate (Try.f59.ntmps - args.length) (.d .undef)) h (kFin env.P h.length true [.tmp 2]) :=
 x5 (mode := 2) (by kernel_rfl) Try.func59 (by kernel_rfl) (by kernel_rfl) xq4 (by kernel_rfl) (by kernel_rfl)
noncomputable def xj9 : SC := slimL Try.f59 0
theorem xjt {R : Type} {call : CallF} {L nf n : Nat} {thaw : List Nat} {live m : List Bool} {s : List A} {h : H} {k : Exit → List A → H → Option R} : kLoop env call L nf thaw live (xco 0) m (n + 1) s h k = kCode env call L nf thaw live xco xj9 s h (kNext env call L nf thaw live (xco 0) m n k) :=
 kLoop_step xq4 (by kernel_rfl)
noncomputable def x46 : SC := slimF Try.f60
noncomputable def xpn : Nat → Code := lpOf Try.f60
theorem xoy : drawsOK (codeOf Try.f60) = true := by kernel_rfl
theorem x52 {L n : Nat} {args : List A} {h : H} : evCall env L (n + 1) 60 args h = kCode env (evCall env L n) L h.length [] ([]) xpn x46 (args ++ List.replicate (Try.f60.ntmps - args.length) (.d .undef)) h (kFin env.P h.length false [.tmp 6, .tmp 7]) :=
 x5 (mode := 1) (by kernel_rfl) Try.func60 (by kernel_rfl) (by kernel_rfl) xoy (by kernel_rfl) (by kernel_rfl)
noncomputable def x5y : SC := slimF Try.f61
noncomputable def xap : Nat → Code := lpOf Try.f61
theorem xav : drawsOK (codeOf Try.f61) = true := by kernel_rfl
theorem xay {L n : Nat} {args : List A} {h : H} : evCall env L (n + 1) 61 args h = kCode env (evCall env L n) L h.length [] ([]) xap x5y (args ++ List.replicate (Try.f61.ntmps - args.length) (.d .undef)) h (kFin env.P h.length false [.tmp 4]) :=
 x5 (mode := 1) (by kernel_rfl) Try.func61 (by kernel_rfl) (by kernel_rfl) xav (by kernel_rfl) (by kernel_rfl)
noncomputable def xsk : SC := slimF Try.f62
noncomputable def xc5 : Nat → Code := lpOf Try.f62
theorem xq9 : drawsOK (codeOf Try.f62) = true := by kernel_rfl
theorem xv5 {L n : Nat} {args : List A} {h : H} : evCall env L (n + 1) 62 args h = kCode env (evCall env L n) L h.length [] (U2 (Z2 (U2 (Z16 (Z4 (Z1 ([]))))))) xc5 xsk (args ++ List.replicate (Try.f62.ntmps - args.length) (.d .undef)) h (kFin env.P h.length false [.tmp 4]) :=
 x5 (mode := 1) (by kernel_rfl) Try.func62 (by kernel_rfl) (by kernel_rfl) xq9 (by kernel_rfl) (by kernel_rfl)
noncomputable def xiy : SC := slimL Try.f62 0
theorem xjj {R : Type} {call : CallF} {L nf n : Nat} {thaw : List Nat} {live m : List Bool} {s : List A} {h : H} {k : Exit → List A → H → Option R} : kLoop env call L nf thaw live (xc5 0) m (n + 1) s h k = kCode env call L nf thaw live xc5 xiy s h (kNext env call L nf thaw live (xc5 0) m n k) :=
 kLoop_step xq9 (by kernel_rfl)
noncomputable def xsw : SC := slimF Try.f63
noncomputable def xbn : Nat → Code := lpOf Try.f63
theorem xqb : drawsOK (codeOf Try.f63) = true := by kernel_rfl
theorem xvb {L n : Nat} {args : List A} {h : H} : evCall env L (n + 1) 63 args h = kCode env (evCall env L n) L h.length [] (U2 (Z2 (U2 (Z16 (Z4 ([])))))) xbn xsw (args ++ List.replicate (Try.f63.ntmps - args.length) (.d .undef)) h (kFin env.P h.length false [.tmp 4]) :=
 x5 (mode := 1) (by kernel_rfl) Try.func63 (by kernel_rfl) (by kernel_rfl) xqb (by kernel_rfl) (by kernel_rfl)
noncomputable def xj5 : SC := slimL Try.f63 0
theorem xk2 {R : Type} {call : CallF} {L nf n : Nat} {thaw : List Nat} {live m : List Bool} {s : List A} {h : H} {k : Exit → List A → H → Option R} : kLoop env call L nf thaw live (xbn 0) m (n + 1) s h k = kCode env call L nf thaw live xbn xj5 s h (kNext env call L nf thaw live (xbn 0) m n k) :=
 kLoop_step xqb (by kernel_rfl)
noncomputable def xoi : SC := slimF Try.f64
noncomputable def x6j : Nat → Code := lpOf Try.f64
theorem xnf : drawsOK (codeOf Try.f64) = true := by kernel_rfl
theorem xth {L n : Nat} {args : List A} {h : H} : evCall env L (n + 1) 64 args h = kCode env (evCall env L n) L h.length [] (U2 (Z2 (U2 (Z8 (Z4 (Z1 ([]))))))) x6j xoi (args ++ List.replicate (Try.f64.ntmps - args.length) (.d .undef)) h (kFin env.P h.length false [.tmp 4]) :=
 x5 (mode := 0) (by kernel_rfl) Try.func64 (by kernel_rfl) (by kernel_rfl) xnf (by kernel_rfl) (by kernel_rfl)
noncomputable def xff : SC := slimL Try.f64 0
theorem xgt {R : Type} {call : CallF} {L nf n : Nat} {thaw : List Nat} {live m : List Bool} {s : List A} {h : H} {k : Exit → List A → H → Option R} : kLoop env call L nf thaw live (x6j 0) m (n + 1) s h k = kCode env call L nf thaw live x6j xff s h (kNext env call L nf thaw live (x6j 0) m n k) :=
 kLoop_step xnf (by kernel_rfl)
noncomputable def xnz : SC := slimF Try.f65
noncomputable def x7y : Nat → Code := lpOf Try.f65
theorem xma : drawsOK (codeOf Try.f65) = true := by kernel_rfl
theorem xug {L n : Nat} {args : List A} {h : H} : evCall env L (n + 1) 65 args h = kCode env (evCall env L n) L h.length [] (U2 (Z2 (U2 (Z8 (Z4 (Z2 (Z1 ([])))))))) x7y xnz (args ++ List.replicate (Try.f65.ntmps - args.length) (.d .undef)) h (kFin env.P h.length false [.tmp 4]) :=
 x5 (mode := 0) (by kernel_rfl) Try.func65 (by kernel_rfl) (by kernel_rfl) xma (by kernel_rfl) (by kernel_rfl)
noncomputable def xf8 : SC := slimL Try.f65 0
theorem xhh {R : Type} {call : CallF} {L nf n : Nat} {thaw : List Nat} {live m : List Bool} {s : List A} {h : H} {k : Exit → List A → H → Option R} : kLoop env call L nf thaw live (x7y 0) m (n + 1) s h k = kCode env call L nf thaw live x7y xf8 s h (kNext env call L nf thaw live (x7y 0) m n k) :=
 kLoop_step xma (by kernel_rfl)
noncomputable def xkx : SC := slimF Try.f66
noncomputable def xaf : Nat → Code := lpOf Try.f66
theorem xo7 : drawsOK (codeOf Try.f66) = true := by kernel_rfl
theorem xo6 {L n : Nat} {args : List A} {h : H} : evCall env L (n + 1) 66 args h = kCode env (evCall env L n) L h.length [] (U1 (Z1 (U2 (Z16 ([]))))) xaf xkx (args ++ List.replicate (Try.f66.ntmps - args.length) (.d .undef)) h (kFin env.P h.length false [.tmp 2]) :=
 x5 (mode := 1) (by kernel_rfl) Try.func66 (by kernel_rfl) (by kernel_rfl) xo7 (by kernel_rfl) (by kernel_rfl)
noncomputable def xbg : SC := slimL Try.f66 0
theorem xbr {R : Type} {call : CallF} {L nf n : Nat} {thaw : List Nat} {live m : List Bool} {s : List A} {h : H} {k : Exit → List A → H → Option R} : kLoop env call L nf thaw live (xaf 0) m (n + 1) s h k = kCode env call L nf thaw live xaf xbg s h (kNext env call L nf thaw live (xaf 0) m n k) :=
 kLoop_step xo7 (by kernel_rfl)
noncomputable def xv3 : SC := slimF Try.f68
noncomputable def xwf : Nat → Code := lpOf Try.f68
theorem xwh : drawsOK (codeOf Try.f68) = true := by kernel_rfl
theorem xwe {L n : Nat} {args : List A} {h : H} : evCall env L (n + 1) 68 args h = kCode env (evCall env L n) L h.length [] ([]) xwf xv3 (args ++ List.replicate (Try.f68.ntmps - args.length) (.d .undef)) h (kFin env.P h.length false [.tmp 4]) :=
 x5 (mode := 1) (by kernel_rfl) Try.func68 (by kernel_rfl) (by kernel_rfl) xwh (by kernel_rfl) (by kernel_rfl)
noncomputable def xjp : SC := slimF Try.f79
noncomputable def xra : Nat → Code := lpOf Try.f79
theorem xqv : drawsOK (codeOf Try.f79) = true := by kernel_rfl
theorem xqs {L n : Nat} {args : List A} {h : H} : evCall env L (n + 1) 79 args h = kCode env (evCall env L n) L h.length [] ([]) xra xjp (args ++ List.replicate (Try.f79.ntmps - args.length) (.d .undef)) h (kFin env.P h.length false [.tmp 2]) :=
 x5 (mode := 1) (by kernel_rfl) Try.func79 (by kernel_rfl) (by kernel_rfl) xqv (by kernel_rfl) (by kernel_rfl)
noncomputable def xi4 : SC := slimF Try.f80
noncomputable def xbe : Nat → Code := lpOf Try.f80
theorem xq3 : drawsOK (codeOf Try.f80) = true := by kernel_rfl
theorem xku {L n : Nat} {args : List A} {h : H} : evCall env L (n + 1) 80 args h = kCode env (evCall env L n) L h.length [] (U1 (Z1 (U1 (Z2 (Z1 (U2 (Z16 (Z4 (Z2 (Z1 ([]))))))))))) xbe xi4 (args ++ List.replicate (Try.f80.ntmps - args.length) (.d .undef)) h (kFin env.P h.length false [.tmp 6]) :=
 x5 (mode := 1) (by kernel_rfl) Try.func80 (by kernel_rfl) (by kernel_rfl) xq3 (by kernel_rfl) (by kernel_rfl)
noncomputable def xa7 : SC := slimL Try.f80 0
theorem x8v {R : Type} {call : CallF} {L nf n : Nat} {thaw : List Nat} {live m : List Bool} {s : List A} {h : H} {k : Exit → List A → H → Option R} : kLoop env call L nf thaw live (xbe 0) m (n + 1) s h k = kCode env call L nf thaw live xbe xa7 s h (kNext env call L nf thaw live (xbe 0) m n k) :=
 kLoop_step xq3 (by kernel_rfl)
noncomputable def xt2 : SC := slimF Try.f81
noncomputable def xvq : Nat → Code := lpOf Try.f81
theorem xvd : drawsOK (codeOf Try.f81) = true := by kernel_rfl
theorem xvi {L n : Nat} {args : List A} {h : H} : evCall env L (n + 1) 81 args h = kCode env (evCall env L n) L h.length [] ([]) xvq xt2 (args ++ List.replicate (Try.f81.ntmps - args.length) (.d .undef)) h (kFin env.P h.length false [.tmp 4]) :=
 x5 (mode := 1) (by kernel_rfl) Try.func81 (by kernel_rfl) (by kernel_rfl) xvd (by kernel_rfl) (by kernel_rfl)
noncomputable def xo2 : SC := slimF Try.f83
noncomputable def x8r : Nat → Code := lpOf Try.f83
theorem xmv : drawsOK (codeOf Try.f83) = true := by kernel_rfl
theorem xts {L n : Nat} {args : List A} {h : H} : evCall env L (n + 1) 83 args h = kCode env (evCall env L n) L h.length [] (U2 (Z2 (U2 (U1 (Z8 (Z2 (Z1 ([])))))))) x8r xo2 (args ++ List.replicate (Try.f83.ntmps - args.length) (.d .undef)) h (kFin env.P h.length false [.tmp 4]) :=
 x5 (mode := 1) (by kernel_rfl) Try.func83 (by kernel_rfl) (by kernel_rfl) xmv (by kernel_rfl) (by kernel_rfl)
noncomputable def xai : SC := slimL Try.f83 0
theorem xaz {R : Type} {call : CallF} {L nf n : Nat} {thaw : List Nat} {live m : List Bool} {s : List A} {h : H} {k : Exit → List A → H → Option R} : kLoop env call L nf thaw live (x8r 0) m (n + 1) s h k = kCode env call L nf thaw live x8r xai s h (kNext env call L nf thaw live (x8r 0) m n k) :=
 kLoop_step xmv (by kernel_rfl)
noncomputable def xpi : SC := slimF Try.f84
noncomputable def xw6 : Nat → Code := lpOf Try.f84
theorem xvs : drawsOK (codeOf Try.f84) = true := by kernel_rfl
theorem xsf {L n : Nat} {args : List A} {h : H} : evCall env L (n + 1) 84 args h = kCode env (evCall env L n) L h.length [] ([]) xw6 xpi (args ++ List.replicate (Try.f84.ntmps - args.length) (.d .undef)) h (kFin env.P h.length false [.tmp 4]) :=
 x5 (mode := 1) (by kernel_rfl) Try.func84 (by kernel_rfl) (by kernel_rfl) xvs (by kernel_rfl) (by kernel_rfl)
noncomputable def xe7 : SC := slimF Try.f85
noncomputable def xtf : Nat → Code := lpOf Try.f85
theorem xtz : drawsOK (codeOf Try.f85) = true := by kernel_rfl
theorem xhd {L n : Nat} {args : List A} {h : H} : evCall env L (n + 1) 85 args h = kCode env (evCall env L n) L h.length [] ([]) xtf xe7 (args ++ List.replicate (Try.f85.ntmps - args.length) (.d .undef)) h (kFin env.P h.length false [.tmp 4]) :=
 x5 (mode := 1) (by kernel_rfl) Try.func85 (by kernel_rfl) (by kernel_rfl) xtz (by kernel_rfl) (by kernel_rfl)
noncomputable def xe6 : SC := slimF Try.f86
noncomputable def x17 : Nat → Code := lpOf Try.f86
theorem x8j : drawsOK (codeOf Try.f86) = true := by kernel_rfl
theorem xgq {L n : Nat} {args : List A} {h : H} : evCall env L (n + 1) 86 args h = kCode env (evCall env L n) L h.length [] (Z1 (U8 (U4 (U2 (U1 (Z32 (Z32 (Z16 (Z8 (Z2 (Z1 ([])))))))))))) x17 xe6 (args ++ List.replicate (Try.f86.ntmps - args.length) (.d .undef)) h (kFin env.P h.length false [.tmp 2, .tmp 3]) :=
 x5 (mode := 1) (by kernel_rfl) Try.func86 (by kernel_rfl) (by kernel_rfl) x8j (by kernel_rfl) (by kernel_rfl)
noncomputable def xf5 : SC := slimL Try.f86 0
theorem xhx {R : Type} {call : CallF} {L nf n : Nat} {thaw : List Nat} {live m : List Bool} {s : List A} {h : H} {k : Exit → List A → H → Option R} : kLoop env call L nf thaw live (x17 0) m (n + 1) s h k = kCode env call L nf thaw live x17 xf5 s h (kNext env call L nf thaw live (x17 0) m n k) :=
 kLoop_step x8j (by kernel_rfl)
noncomputable def xak : SC := slimL Try.f86 1
theorem xat {R : Type} {call : CallF} {L nf n : Nat} {thaw : List Nat} {live m : List Bool} {s : List A} {h : H} {k : Exit → List A → H → Option R} : kLoop env call L nf thaw live (x17 1) m (n + 1) s h k = kCode env call L nf thaw live x17 xak s h (kNext env call L nf thaw live (x17 1) m n k) :=
 kLoop_step x8j (by kernel_rfl)
noncomputable def x7c : SC := slimL Try.f86 2
theorem x6z {R : Type} {call : CallF} {L nf n : Nat} {thaw : List Nat} {live m : List Bool} {s : List A} {h : H} {k : Exit → List A → H → Option R} : kLoop env call L nf thaw live (x17 2) m (n + 1) s h k = kCode env call L nf thaw live x17 x7c s h (kNext env call L nf thaw live (x17 2) m n k) :=
 kLoop_step x8j (by kernel_rfl)
noncomputable def x7g : SC := slimL Try.f86 3
theorem x78 {R : Type} {call : CallF} {L nf n : Nat} {thaw : List Nat} {live m : List Bool} {s : List A} {h : H} {k : Exit → List A → H → Option R} : kLoop env call L nf thaw live (x17 3) m (n + 1) s h k = kCode env call L nf thaw live x17 x7g s h (kNext env call L nf thaw live (x17 3) m n k) :=
 kLoop_step x8j (by kernel_rfl)
noncomputable def xu8 : SC := slimF Try.f87
noncomputable def xem : Nat → Code := lpOf Try.f87
theorem xsn : drawsOK (codeOf Try.f87) = true := by kernel_rfl
theorem xwb {L n : Nat} {args : List A} {h : H} : evCall env L (n + 1) 87 args h = kCode env (evCall env L n) L h.length [] (U1 (Z1 (U2 (U1 (Z16 (Z1 ([]))))))) xem xu8 (args ++ List.replicate (Try.f87.ntmps - args.length) (.d .undef)) h (kFin env.P h.length true [.tmp 2]) :=
 x5 (mode := 2) (by kernel_rfl) Try.func87 (by kernel_rfl) (by kernel_rfl) xsn (by kernel_rfl) (by kernel_rfl)
noncomputable def xkl : SC := slimL Try.f87 0
theorem xlc {R : Type} {call : CallF} {L nf n : Nat} {thaw : List Nat} {live m : List Bool} {s : List A} {h : H} {k : Exit → List A → H → Option R} : kLoop env call L nf thaw live (xem 0) m (n + 1) s h k = kCode env call L nf thaw live xem xkl s h (kNext env call L nf thaw live (xem 0) m n k) :=
 kLoop_step xsn (by kernel_rfl)
noncomputable def xim : SC := slimF Try.f88
noncomputable def xpw : Nat → Code := lpOf Try.f88
theorem xpp : drawsOK (codeOf Try.f88) = true := by kernel_rfl
theorem xpq {L n : Nat} {args : List A} {h : H} : evCall env L (n + 1) 88 args h = kCode env (evCall env L n) L h.length [] ([]) xpw xim (args ++ List.replicate (Try.f88.ntmps - args.length) (.d .undef)) h (kFin env.P h.length false [.tmp 10, .tmp 11]) :=
 x5 (mode := 1) (by kernel_rfl) Try.func88 (by kernel_rfl) (by kernel_rfl) xpp (by kernel_rfl) (by kernel_rfl)
noncomputable def xeu : SC := slimF Try.f89
noncomputable def xly : Nat → Code := lpOf Try.f89
theorem xm2 : drawsOK (codeOf Try.f89) = true := by kernel_rfl
theorem xlx {L n : Nat} {args : List A} {h : H} : evCall env L (n + 1) 89 args h = kCode env (evCall env L n) L h.length [] ([]) xly xeu (args ++ List.replicate (Try.f89.ntmps - args.length) (.d .undef)) h (kFin env.P h.length false [.tmp 4]) :=
 x5 (mode := 0) (by kernel_rfl) Try.func89 (by kernel_rfl) (by kernel_rfl) xm2 (by kernel_rfl) (by kernel_rfl)
noncomputable def x54 : SC := slimF Try.f90
noncomputable def x1v : Nat → Code := lpOf Try.f90
theorem x6e : drawsOK (codeOf Try.f90) = true := by kernel_rfl
theorem x6d {L n : Nat} {args : List A} {h : H} : evCall env L (n + 1) 90 args h = kCode env (evCall env L n) L h.length [] (U2 (Z2 (U1 (Z2 (U2 (Z8 (Z2 ([])))))))) x1v x54 (args ++ List.replicate (Try.f90.ntmps - args.length) (.d .undef)) h (kFin env.P h.length false [.tmp 4]) :=
 x5 (mode := 1) (by kernel_rfl) Try.func90 (by kernel_rfl) (by kernel_rfl) x6e (by kernel_rfl) (by kernel_rfl)
noncomputable def x31 : SC := slimL Try.f90 0
theorem x3q {R : Type} {call : CallF} {L nf n : Nat} {thaw : List Nat} {live m : List Bool} {s : List A} {h : H} {k : Exit → List A → H → Option R} : kLoop env call L nf thaw live (x1v 0) m (n + 1) s h k = kCode env call L nf thaw live x1v x31 s h (kNext env call L nf thaw live (x1v 0) m n k) :=
 kLoop_step x6e (by kernel_rfl)
noncomputable def xtr : SC := slimF Try.f91
noncomputable def xer : Nat → Code := lpOf Try.f91
theorem xsu : drawsOK (codeOf Try.f91) = true := by kernel_rfl
theorem xw5 {L n : Nat} {args : List A} {h : H} : evCall env L (n + 1) 91 args h = kCode env (evCall env L n) L h.length [] (U2 (Z2 (U2 (Z16 (Z4 ([])))))) xer xtr (args ++ List.replicate (Try.f91.ntmps - args.length) (.d .undef)) h (kFin env.P h.length false [.tmp 4]) :=
 x5 (mode := 1) (by kernel_rfl) Try.func91 (by kernel_rfl) (by kernel_rfl) xsu (by kernel_rfl) (by kernel_rfl)
noncomputable def xks : SC := slimL Try.f91 0
theorem xl9 {R : Type} {call : CallF} {L nf n : Nat} {thaw : List Nat} {live m : List Bool} {s : List A} {h : H} {k : Exit → List A → H → Option R} : kLoop env call L nf thaw live (xer 0) m (n + 1) s h k = kCode env call L nf thaw live xer xks s h (kNext env call L nf thaw live (xer 0) m n k) :=
 kLoop_step xsu (by kernel_rfl)
noncomputable def xqi : SC := slimF Try.f92
noncomputable def x9j : Nat → Code := lpOf Try.f92
theorem xoh : drawsOK (codeOf Try.f92) = true := by kernel_rfl
theorem xup {L n : Nat} {args : List A} {h : H} : evCall env L (n + 1) 92 args h = kCode env (evCall env L n) L h.length [] (U2 (Z2 (U2 (Z8 (Z4 (Z1 ([]))))))) x9j xqi (args ++ List.replicate (Try.f92.ntmps - args.length) (.d .undef)) h (kFin env.P h.length false [.tmp 4]) :=
 x5 (mode := 0) (by kernel_rfl) Try.func92 (by kernel_rfl) (by kernel_rfl) xoh (by kernel_rfl) (by kernel_rfl)
noncomputable def xgx : SC := slimL Try.f92 0
theorem xiq {R : Type} {call : CallF} {L nf n : Nat} {thaw : List Nat} {live m : List Bool} {s : List A} {h : H} {k : Exit → List A → H → Option R} : kLoop env call L nf thaw live (x9j 0) m (n + 1) s h k = kCode env call L nf thaw live x9j xgx s h (kNext env call L nf thaw live (x9j 0) m n k) :=
 kLoop_step xoh (by kernel_rfl)
noncomputable def xo5 : SC := slimF Try.f108
noncomputable def x4g : Nat → Code := lpOf Try.f108
theorem xhm : drawsOK (codeOf Try.f108) = true := by kernel_rfl
theorem xu4 {L n : Nat} {args : List A} {h : H} : evCall env L (n + 1) 108 args h = kCode env (evCall env L n) L h.length [] (Z1 (U4 (U1 (Z32 (Z2 (Z1 ([]))))))) x4g xo5 (args ++ List.replicate (Try.f108.ntmps - args.length) (.d .undef)) h (kFin env.P h.length false [.tmp 2]) :=
 x5 (mode := 2) (by kernel_rfl) Try.func108 (by kernel_rfl) (by kernel_rfl) xhm (by kernel_rfl) (by kernel_rfl)
noncomputable def xf4 : SC := slimL Try.f108 0
theorem xgu {R : Type} {call : CallF} {L nf n : Nat} {thaw : List Nat} {live m : List Bool} {s : List A} {h : H} {k : Exit → List A → H → Option R} : kLoop env call L nf thaw live (x4g 0) m (n + 1) s h k = kCode env call L nf thaw live x4g xf4 s h (kNext env call L nf thaw live (x4g 0) m n k) :=
 kLoop_step xhm (by kernel_rfl)
noncomputable def xf7 : SC := slimL Try.f108 1
theorem xhw {R : Type} {call : CallF} {L nf n : Nat} {thaw : List Nat} {live m : List Bool} {s : List A} {h : H} {k : Exit → List A → H → Option R} : kLoop env call L nf thaw live (x4g 1) m (n + 1) s h k = kCode env call L nf thaw live x4g xf7 s h (kNext env call L nf thaw live (x4g 1) m n k) :=
 kLoop_step xhm (by kernel_rfl)
noncomputable def xom : SC := slimF Try.f109
noncomputable def x4e : Nat → Code := lpOf Try.f109
theorem xhl : drawsOK (codeOf Try.f109) = true := by kernel_rfl
theorem xu3 {L n : Nat} {args : List A} {h : H} : evCall env L (n + 1) 109 args h = kCode env (evCall env L n) L h.length [] (Z1 (U2 (U1 (Z2 (U4 (U2 (U1 (Z32 (Z2 (Z1 ([]))))))))))) x4e xom (args ++ List.replicate (Try.f109.ntmps - args.length) (.d .undef)) h (kFin env.P h.length false [.tmp 6]) :=
 x5 (mode := 2) (by kernel_rfl) Try.func109 (by kernel_rfl) (by kernel_rfl) xhl (by kernel_rfl) (by kernel_rfl)
noncomputable def xf3 : SC := slimL Try.f109 0
theorem xgm {R : Type} {call : CallF} {L nf n : Nat} {thaw : List Nat} {live m : List Bool} {s : List A} {h : H} {k : Exit → List A → H → Option R} : kLoop env call L nf thaw live (x4e 0) m (n + 1) s h k = kCode env call L nf thaw live x4e xf3 s h (kNext env call L nf thaw live (x4e 0) m n k) :=
 kLoop_step xhl (by kernel_rfl)
noncomputable def xfc : SC := slimL Try.f109 1
theorem xhv {R : Type} {call : CallF} {L nf n : Nat} {thaw : List Nat} {live m : List Bool} {s : List A} {h : H} {k : Exit → List A → H → Option R} : kLoop env call L nf thaw live (x4e 1) m (n + 1) s h k = kCode env call L nf thaw live x4e xfc s h (kNext env call L nf thaw live (x4e 1) m n k) :=
 kLoop_step xhl (by kernel_rfl)
noncomputable def x7i : SC := slimF Try.f110
noncomputable def xua : Nat → Code := lpOf Try.f110
theorem xtc : drawsOK (codeOf Try.f110) = true := by kernel_rfl
theorem x8m {L n : Nat} {args : List A} {h : H} : evCall env L (n + 1) 110 args h = kCode env (evCall env L n) L h.length [] (Z2 (U1 (Z2 (Z1 (U2 (Z32 (Z16 (Z8 ([]))))))))) xua x7i (args ++ List.replicate (Try.f110.ntmps - args.length) (.d .undef)) h (kFin env.P h.length false [.tmp 6]) :=
 x5 (mode := 1) (by kernel_rfl) Try.func110 (by kernel_rfl) (by kernel_rfl) xtc (by kernel_rfl) (by kernel_rfl)
noncomputable def xmx : SC := slimF Try.f111
noncomputable def x7b : Nat → Code := lpOf Try.f111
theorem xld : drawsOK (codeOf Try.f111) = true := by kernel_rfl
theorem xt8 {L n : Nat} {args : List A} {h : H} : evCall env L (n + 1) 111 args h = kCode env (evCall env L n) L h.length [] (U2 (Z2 (U2 (U1 (Z16 (Z8 (Z2 ([])))))))) x7b xmx (args ++ List.replicate (Try.f111.ntmps - args.length) (.d .undef)) h (kFin env.P h.length false [.tmp 4]) :=
 x5 (mode := 2) (by kernel_rfl) Try.func111 (by kernel_rfl) (by kernel_rfl) xld (by kernel_rfl) (by kernel_rfl)
noncomputable def xdo : SC := slimL Try.f111 0
theorem xg5 {R : Type} {call : CallF} {L nf n : Nat} {thaw : List Nat} {live m : List Bool} {s : List A} {h : H} {k : Exit → List A → H → Option R} : kLoop env call L nf thaw live (x7b 0) m (n + 1) s h k = kCode env call L nf thaw live x7b xdo s h (kNext env call L nf thaw live (x7b 0) m n k) :=
 kLoop_step xld (by kernel_rfl)
noncomputable def xq5 : SC := slimF Try.f112
noncomputable def x45 : Nat → Code := lpOf Try.f112
theorem xj3 : drawsOK (codeOf Try.f112) = true := by kernel_rfl
theorem xut {L n : Nat} {args : List A} {h : H} : evCall env L (n + 1) 112 args h = kCode env (evCall env L n) L h.length [] (U2 (Z2 (U2 (U1 (Z16 (Z8 (Z4 ([])))))))) x45 xq5 (args ++ List.replicate (Try.f112.ntmps - args.length) (.d .undef)) h (kFin env.P h.length false []) :=
 x5 (mode := 0) (by kernel_rfl) Try.func112 (by kernel_rfl) (by kernel_rfl) xj3 (by kernel_rfl) (by kernel_rfl)
noncomputable def xbi : SC := slimL Try.f112 0
theorem xc6 {R : Type} {call : CallF} {L nf n : Nat} {thaw : List Nat} {live m : List Bool} {s : List A} {h : H} {k : Exit → List A → H → Option R} : kLoop env call L nf thaw live (x45 0) m (n + 1) s h k = kCode env call L nf thaw live x45 xbi s h (kNext env call L nf thaw live (x45 0) m n k) :=
 kLoop_step xj3 (by kernel_rfl)
noncomputable def x88 : SC := slimL Try.f112 1
theorem x7s {R : Type} {call : CallF} {L nf n : Nat} {thaw : List Nat} {live m : List Bool} {s : List A} {h : H} {k : Exit → List A → H → Option R} : kLoop env call L nf thaw live (x45 1) m (n + 1) s h k = kCode env call L nf thaw live x45 x88 s h (kNext env call L nf thaw live (x45 1) m n k) :=
 kLoop_step xj3 (by kernel_rfl)
noncomputable def xm8 : SC := slimF Try.f113
noncomputable def x7d : Nat → Code := lpOf Try.f113
theorem xlo : drawsOK (codeOf Try.f113) = true := by kernel_rfl
theorem xt9 {L n : Nat} {args : List A} {h : H} : evCall env L (n + 1) 113 args h = kCode env (evCall env L n) L h.length [] (U2 (Z2 (U2 (U1 (Z16 (Z2 ([]))))))) x7d xm8 (args ++ List.replicate (Try.f113.ntmps - args.length) (.d .undef)) h (kFin env.P h.length false [.tmp 4]) :=
 x5 (mode := 1) (by kernel_rfl) Try.func113 (by kernel_rfl) (by kernel_rfl) xlo (by kernel_rfl) (by kernel_rfl)
noncomputable def xdu : SC := slimL Try.f113 0
theorem xg1 {R : Type} {call : CallF} {L nf n : Nat} {thaw : List Nat} {live m : List Bool} {s : List A} {h : H} {k : Exit → List A → H → Option R} : kLoop env call L nf thaw live (x7d 0) m (n + 1) s h k = kCode env call L nf thaw live x7d xdu s h (kNext env call L nf thaw live (x7d 0) m n k) :=
 kLoop_step xlo (by kernel_rfl)
noncomputable def xm6 : SC := slimF Try.f114
noncomputable def x3r : Nat → Code := lpOf Try.f114
theorem xfh : drawsOK (codeOf Try.f114) = true := by kernel_rfl
theorem xt6 {L n : Nat} {args : List A} {h : H} : evCall env L (n + 1) 114 args h = kCode env (evCall env L n) L h.length [] (U4 (U1 (Z4 (Z1 (U4 (U1 (Z32 (Z16 (Z1 ([])))))))))) x3r xm6 (args ++ List.replicate (Try.f114.ntmps - args.length) (.d .undef)) h (kFin env.P h.length false [.tmp 10]) :=
 x5 (mode := 2) (by kernel_rfl) Try.func114 (by kernel_rfl) (by kernel_rfl) xfh (by kernel_rfl) (by kernel_rfl)
noncomputable def xdw : SC := slimL Try.f114 0
theorem xg4 {R : Type} {call : CallF} {L nf n : Nat} {thaw : List Nat} {live m : List Bool} {s : List A} {h : H} {k : Exit → List A → H → Option R} : kLoop env call L nf thaw live (x3r 0) m (n + 1) s h k = kCode env call L nf thaw live x3r xdw s h (kNext env call L nf thaw live (x3r 0) m n k) :=
 kLoop_step xfh (by kernel_rfl)
noncomputable def x6p : SC := slimL Try.f114 1
theorem x6h {R : Type} {call : CallF} {L nf n : Nat} {thaw : List Nat} {live m : List Bool} {s : List A} {h : H} {k : Exit → List A → H → Option R} : kLoop env call L nf thaw live (x3r 1) m (n + 1) s h k = kCode env call L nf thaw live x3r x6p s h (kNext env call L nf thaw live (x3r 1) m n k) :=
 kLoop_step xfh (by kernel_rfl)
noncomputable def xqo : SC := slimF Try.f115
noncomputable def xuq : Nat → Code := lpOf Try.f115
theorem xux : drawsOK (codeOf Try.f115) = true := by kernel_rfl
theorem xui {L n : Nat} {args : List A} {h : H} : evCall env L (n + 1) 115 args h = kCode env (evCall env L n) L h.length [] ([]) xuq xqo (args ++ List.replicate (Try.f115.ntmps - args.length) (.d .undef)) h (kFin env.P h.length false [.tmp 2]) :=
 x5 (mode := 1) (by kernel_rfl) Try.func115 (by kernel_rfl) (by kernel_rfl) xux (by kernel_rfl) (by kernel_rfl)
noncomputable def xeb : SC := slimF Try.f116
noncomputable def xlz : Nat → Code := lpOf Try.f116
theorem xlt : drawsOK (codeOf Try.f116) = true := by kernel_rfl
theorem xm1 {L n : Nat} {args : List A} {h : H} : evCall env L (n + 1) 116 args h = kCode env (evCall env L n) L h.length [] ([]) xlz xeb (args ++ List.replicate (Try.f116.ntmps - args.length) (.d .undef)) h (kFin env.P h.length false [.tmp 9]) :=
 x5 (mode := 0) (by kernel_rfl) Try.func116 (by kernel_rfl) (by kernel_rfl) xlt (by kernel_rfl) (by kernel_rfl)
noncomputable def xaj : SC := slimF Try.f117
noncomputable def x1n : Nat → Code := lpOf Try.f117
theorem x8t : drawsOK (codeOf Try.f117) = true := by kernel_rfl
theorem xdr {L n : Nat} {args : List A} {h : H} : evCall env L (n + 1) 117 args h = kCode env (evCall env L n) L h.length [0, 0, 0, 0, 0, 0, 0, 0, 0, 0, 0, 0, 0, 0, 0, 0, 0, 0, 2] (Z2 (U2 (Z4 (Z2 (U2 (Z1 (U2 (U1 (Z1 (U2 (Z8 (Z4 (Z2 (U2 (U1 (Z4 (Z2 (Z1 (U2 (U1 (Z16 (Z1 ([]))))))))))))))))))))))) x1n xaj (args ++ List.replicate (Try.f117.ntmps - args.length) (.d .undef)) h (kFin env.P h.length false [.tmp 10, .tmp 11]) :=
 x5 (mode := 1) (by kernel_rfl) Try.func117 (by kernel_rfl) (by kernel_rfl) x8t (by kernel_rfl) (by kernel_rfl)
noncomputable def x63 : SC := slimL Try.f117 0
theorem x68 {R : Type} {call : CallF} {L nf n : Nat} {thaw : List Nat} {live m : List Bool} {s : List A} {h : H} {k : Exit → List A → H → Option R} : kLoop env call L nf thaw live (x1n 0) m (n + 1) s h k = kCode env call L nf thaw live x1n x63 s h (kNext env call L nf thaw live (x1n 0) m n k) :=
 kLoop_step x8t (by kernel_rfl)
noncomputable def x7v : SC := slimL Try.f117 1
theorem x8e {R : Type} {call : CallF} {L nf n : Nat} {thaw : List Nat} {live m : List Bool} {s : List A} {h : H} {k : Exit → List A → H → Option R} : kLoop env call L nf thaw live (x1n 1) m (n + 1) s h k = kCode env call L nf thaw live x1n x7v s h (kNext env call L nf thaw live (x1n 1) m n k) :=
 kLoop_step x8t (by kernel_rfl)
noncomputable def xc1 : SC := slimL Try.f117 2
theorem xep {R : Type} {call : CallF} {L nf n : Nat} {thaw : List Nat} {live m : List Bool} {s : List A} {h : H} {k : Exit → List A → H → Option R} : kLoop env call L nf thaw live (x1n 2) m (n + 1) s h k = kCode env call L nf thaw live x1n xc1 s h (kNext env call L nf thaw live (x1n 2) m n k) :=
 kLoop_step x8t (by kernel_rfl)
noncomputable def xef : SC := slimF Try.f118
noncomputable def xm0 : Nat → Code := lpOf Try.f118
theorem xls : drawsOK (codeOf Try.f118) = true := by kernel_rfl
theorem xlv {L n : Nat} {args : List A} {h : H} : evCall env L (n + 1) 118 args h = kCode env (evCall env L n) L h.length [] ([]) xm0 xef (args ++ List.replicate (Try.f118.ntmps - args.length) (.d .undef)) h (kFin env.P h.length false [.tmp 6]) :=
 x5 (mode := 0) (by kernel_rfl) Try.func118 (by kernel_rfl) (by kernel_rfl) xls (by kernel_rfl) (by kernel_rfl)
noncomputable def xpk : SC := slimF Try.f119
noncomputable def xet : Nat → Code := lpOf Try.f119
theorem xsg : drawsOK (codeOf Try.f119) = true := by kernel_rfl
theorem xsd {L n : Nat} {args : List A} {h : H} : evCall env L (n + 1) 119 args h = kCode env (evCall env L n) L h.length [] (U2 (Z2 (U2 (Z8 (Z4 ([])))))) xet xpk (args ++ List.replicate (Try.f119.ntmps - args.length) (.d .undef)) h (kFin env.P h.length false [.tmp 4]) :=
 x5 (mode := 1) (by kernel_rfl) Try.func119 (by kernel_rfl) (by kernel_rfl) xsg (by kernel_rfl) (by kernel_rfl)
noncomputable def xgg : SC := slimL Try.f119 0
theorem xf6 {R : Type} {call : CallF} {L nf n : Nat} {thaw : List Nat} {live m : List Bool} {s : List A} {h : H} {k : Exit → List A → H → Option R} : kLoop env call L nf thaw live (xet 0) m (n + 1) s h k = kCode env call L nf thaw live xet xgg s h (kNext env call L nf thaw live (xet 0) m n k) :=
 kLoop_step xsg (by kernel_rfl)
noncomputable def xoq : SC := slimF Try.f139
noncomputable def x29 : Nat → Code := lpOf Try.f139
theorem xcn : drawsOK (codeOf Try.f139) = true := by kernel_rfl
theorem xtw {L n : Nat} {args : List A} {h : H} : evCall env L (n + 1) 139 args h = kCode env (evCall env L n) L h.length [] (Z1 (U4 (Z2 (Z1 (U4 (U2 (U1 (Z32 (Z8 (Z4 (Z2 (Z1 ([]))))))))))))) x29 xoq (args ++ List.replicate (Try.f139.ntmps - args.length) (.d .undef)) h (kFin env.P h.length false [.tmp 8]) :=
 x5 (mode := 2) (by kernel_rfl) Try.func139 (by kernel_rfl) (by kernel_rfl) xcn (by kernel_rfl) (by kernel_rfl)
noncomputable def xfb : SC := slimL Try.f139 0
theorem xhk {R : Type} {call : CallF} {L nf n : Nat} {thaw : List Nat} {live m : List Bool} {s : List A} {h : H} {k : Exit → List A → H → Option R} : kLoop env call L nf thaw live (x29 0) m (n + 1) s h k = kCode env call L nf thaw live x29 xfb s h (kNext env call L nf thaw live (x29 0) m n k) :=
 kLoop_step xcn (by kernel_rfl)
noncomputable def xfm : SC := slimL Try.f139 1
theorem xh8 {R : Type} {call : CallF} {L nf n : Nat} {thaw : List Nat} {live m : List Bool} {s : List A} {h : H} {k : Exit → List A → H → Option R} : kLoop env call L nf thaw live (x29 1) m (n + 1) s h k = kCode env call L nf thaw live x29 xfm s h (kNext env call L nf thaw live (x29 1) m n k) :=
 kLoop_step xcn (by kernel_rfl)
noncomputable def xfl : SC := slimL Try.f139 2
theorem xhs {R : Type} {call : CallF} {L nf n : Nat} {thaw : List Nat} {live m : List Bool} {s : List A} {h : H} {k : Exit → List A → H → Option R} : kLoop env call L nf thaw live (x29 2) m (n + 1) s h k = kCode env call L nf thaw live x29 xfl s h (kNext env call L nf thaw live (x29 2) m n k) :=
 kLoop_step xcn (by kernel_rfl)
noncomputable def xtn : SC := slimF Try.f140
noncomputable def xw4 : Nat → Code := lpOf Try.f140
theorem xw3 : drawsOK (codeOf Try.f140) = true := by kernel_rfl
theorem xwa {L n : Nat} {args : List A} {h : H} : evCall env L (n + 1) 140 args h = kCode env (evCall env L n) L h.length [] ([]) xw4 xtn (args ++ List.replicate (Try.f140.ntmps - args.length) (.d .undef)) h (kFin env.P h.length false [.tmp 6]) :=
 x5 (mode := 1) (by kernel_rfl) Try.func140 (by kernel_rfl) (by kernel_rfl) xw3 (by kernel_rfl) (by kernel_rfl)
noncomputable def xkw : SC := slimF Try.f141
noncomputable def x57 : Nat → Code := lpOf Try.f141
theorem xiz : drawsOK (codeOf Try.f141) = true := by kernel_rfl
theorem xo4 {L n : Nat} {args : List A} {h : H} : evCall env L (n + 1) 141 args h = kCode env (evCall env L n) L h.length [] (U2 (U1 (Z2 (Z1 (U2 (U1 (Z16 (Z8 (Z2 (Z1 ([]))))))))))) x57 xkw (args ++ List.replicate (Try.f141.ntmps - args.length) (.d .undef)) h (kFin env.P h.length false [.tmp 6]) :=
 x5 (mode := 1) (by kernel_rfl) Try.func141 (by kernel_rfl) (by kernel_rfl) xiz (by kernel_rfl) (by kernel_rfl)
noncomputable def xcc : SC := slimL Try.f141 0
theorem xbp {R : Type} {call : CallF} {L nf n : Nat} {thaw : List Nat} {live m : List Bool} {s : List A} {h : H} {k : Exit → List A → H → Option R} : kLoop env call L nf thaw live (x57 0) m (n + 1) s h k = kCode env call L nf thaw live x57 xcc s h (kNext env call L nf thaw live (x57 0) m n k) :=
 kLoop_step xiz (by kernel_rfl)
noncomputable def xch : SC := slimL Try.f141 1
theorem xbh {R : Type} {call : CallF} {L nf n : Nat} {thaw : List Nat} {live m : List Bool} {s : List A} {h : H} {k : Exit → List A → H → Option R} : kLoop env call L nf thaw live (x57 1) m (n + 1) s h k = kCode env call L nf thaw live x57 xch s h (kNext env call L nf thaw live (x57 1) m n k) :=
 kLoop_step xiz (by kernel_rfl)
noncomputable def x76 : SC := slimF Try.f142
noncomputable def x4h : Nat → Code := lpOf Try.f142
theorem xfn : drawsOK (codeOf Try.f142) = true := by kernel_rfl
theorem x9g {L n : Nat} {args : List A} {h : H} : evCall env L (n + 1) 142 args h = kCode env (evCall env L n) L h.length [0, 0, 0, 0, 0, 0, 0, 0, 0, 0, 2] (U2 (Z1 (U2 (U1 (Z2 (Z1 (U2 (U1 (Z2 (U2 (U1 (Z32 (Z1 ([])))))))))))))) x4h x76 (args ++ List.replicate (Try.f142.ntmps - args.length) (.d .undef)) h (kFin env.P h.length false [.tmp 9]) :=
 x5 (mode := 0) (by kernel_rfl) Try.func142 (by kernel_rfl) (by kernel_rfl) xfn (by kernel_rfl) (by kernel_rfl)
noncomputable def x1i : SC := slimL Try.f142 0
theorem x1b {R : Type} {call : CallF} {L nf n : Nat} {thaw : List Nat} {live m : List Bool} {s : List A} {h : H} {k : Exit → List A → H → Option R} : kLoop env call L nf thaw live (x4h 0) m (n + 1) s h k = kCode env call L nf thaw live x4h x1i s h (kNext env call L nf thaw live (x4h 0) m n k) :=
 kLoop_step xfn (by kernel_rfl)
noncomputable def xn8 : SC := slimF Try.f143
noncomputable def x7h : Nat → Code := lpOf Try.f143
theorem xll : drawsOK (codeOf Try.f143) = true := by kernel_rfl
theorem xta {L n : Nat} {args : List A} {h : H} : evCall env L (n + 1) 143 args h = kCode env (evCall env L n) L h.length [0, 0, 0, 2] (U1 (Z1 (U2 (U1 (Z16 (Z8 (Z2 (Z1 ([]))))))))) x7h xn8 (args ++ List.replicate (Try.f143.ntmps - args.length) (.d .undef)) h (kFin env.P h.length false [.tmp 2]) :=
 x5 (mode := 1) (by kernel_rfl) Try.func143 (by kernel_rfl) (by kernel_rfl) xll (by kernel_rfl) (by kernel_rfl)
noncomputable def xdj : SC := slimL Try.f143 0
theorem xg8 {R : Type} {call : CallF} {L nf n : Nat} {thaw : List Nat} {live m : List Bool} {s : List A} {h : H} {k : Exit → List A → H → Option R} : kLoop env call L nf thaw live (x7h 0) m (n + 1) s h k = kCode env call L nf thaw live x7h xdj s h (kNext env call L nf thaw live (x7h 0) m n k) :=
 kLoop_step xll (by kernel_rfl)
noncomputable def xl8 : SC := slimF Try.f152
noncomputable def xry : Nat → Code := lpOf Try.f152
theorem xrq : drawsOK (codeOf Try.f152) = true := by kernel_rfl
theorem xs1 {L n : Nat} {args : List A} {h : H} : evCall env L (n + 1) 152 args h = kCode env (evCall env L n) L h.length [] (Z2 (U2 (Z4 (U4 (Z32 (Z32 (Z2 (Z1 ([]))))))))) xry xl8 (args ++ List.replicate (Try.f152.ntmps - args.length) (.d .undef)) h (kFin env.P h.length false [.tmp 8]) :=
 x5 (mode := 2) (by kernel_rfl) Try.func152 (by kernel_rfl) (by kernel_rfl) xrq (by kernel_rfl) (by kernel_rfl)
end Ev
end Go.Proofs.Ytppdfjdfjfoddaa
