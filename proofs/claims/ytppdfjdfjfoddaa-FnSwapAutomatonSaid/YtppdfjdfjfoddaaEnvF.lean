/-
  Each function's code as an equation. Written by a program.
-/
import Derived.Test.YtppdfjdfjfoddaaEnv
set_option maxRecDepth 100000
namespace Go.Proofs.Ytppdfjdfjfoddaa
namespace Ev
noncomputable def x6e : SC := slimF Try.f3
noncomputable def x38 : Nat → Code := lpOf Try.f3
theorem xc4 : drawsOK (codeOf Try.f3) = true := by kernel_rfl
theorem x7j {L n : Nat} {args : List A} {h : H} : evCall env L (n + 1) 3 args h = kCode env (evCall env L n) L h.length [] (Z2 (U4 (U1 (Z2 (Z1 (U1 (Z32 (Z32 (Z16 (Z8 ([]))))))))))) x38 x6e (args ++ List.replicate (Try.f3.ntmps - args.length) (.d .undef)) h (kFin env.P h.length false [.tmp 2]) :=
 xy (mode := 1) (by kernel_rfl) Try.func3 (by kernel_rfl) (by kernel_rfl) xc4 (by kernel_rfl) (by kernel_rfl)
noncomputable def x5o : SC := slimL Try.f3 0
theorem x66 {R : Type} {call : CallF} {L nf n : Nat} {thaw : List Nat} {live m : List Bool} {s : List A} {h : H} {k : Exit → List A → H → Option R} : kLoop env call L nf thaw live (x38 0) m (n + 1) s h k = kCode env call L nf thaw live x38 x5o s h (kNext env call L nf thaw live (x38 0) m n k) :=
 kLoop_step xc4 (by kernel_rfl)
noncomputable def x9q : SC := slimF Try.f8
noncomputable def xfw : Nat → Code := lpOf Try.f8
theorem xfy : drawsOK (codeOf Try.f8) = true := by kernel_rfl
theorem xfx {L n : Nat} {args : List A} {h : H} : evCall env L (n + 1) 8 args h = kCode env (evCall env L n) L h.length [] ([]) xfw x9q (args ++ List.replicate (Try.f8.ntmps - args.length) (.d .undef)) h (kFin env.P h.length false Try.f8.results.toList) :=
 xy (mode := 2) (by kernel_rfl) Try.func8 (by kernel_rfl) (by kernel_rfl) xfy (by kernel_rfl) (by kernel_rfl)
noncomputable def x5d : SC := slimF Try.f9
noncomputable def x1o : Nat → Code := lpOf Try.f9
theorem x7l : drawsOK (codeOf Try.f9) = true := by kernel_rfl
theorem x61 {L n : Nat} {args : List A} {h : H} : evCall env L (n + 1) 9 args h = kCode env (evCall env L n) L h.length [0, 0, 0, 0, 0, 0, 0, 0, 0, 0, 0, 2] (Z1 (U2 (Z2 (Z1 (U4 (U2 (Z16 (Z8 (Z4 (Z1 (U2 (Z4 (U2 (U1 (Z16 (Z8 ([]))))))))))))))))) x1o x5d (args ++ List.replicate (Try.f9.ntmps - args.length) (.d .undef)) h (kFin env.P h.length false Try.f9.results.toList) :=
 xy (mode := 2) (by kernel_rfl) Try.func9 (by kernel_rfl) (by kernel_rfl) x7l (by kernel_rfl) (by kernel_rfl)
noncomputable def x5m : SC := slimL Try.f9 0
theorem x65 {R : Type} {call : CallF} {L nf n : Nat} {thaw : List Nat} {live m : List Bool} {s : List A} {h : H} {k : Exit → List A → H → Option R} : kLoop env call L nf thaw live (x1o 0) m (n + 1) s h k = kCode env call L nf thaw live x1o x5m s h (kNext env call L nf thaw live (x1o 0) m n k) :=
 kLoop_step x7l (by kernel_rfl)
noncomputable def x70 : SC := slimL Try.f9 1
theorem x95 {R : Type} {call : CallF} {L nf n : Nat} {thaw : List Nat} {live m : List Bool} {s : List A} {h : H} {k : Exit → List A → H → Option R} : kLoop env call L nf thaw live (x1o 1) m (n + 1) s h k = kCode env call L nf thaw live x1o x70 s h (kNext env call L nf thaw live (x1o 1) m n k) :=
 kLoop_step x7l (by kernel_rfl)
noncomputable def x5b : SC := slimF Try.f10
noncomputable def x1n : Nat → Code := lpOf Try.f10
theorem x7s : drawsOK (codeOf Try.f10) = true := by kernel_rfl
theorem x5x {L n : Nat} {args : List A} {h : H} : evCall env L (n + 1) 10 args h = kCode env (evCall env L n) L h.length [] (Z1 (U2 (U1 (Z2 (U4 (U2 (U1 (Z32 (Z16 (Z8 (Z4 (Z1 ([]))))))))))))) x1n x5b (args ++ List.replicate (Try.f10.ntmps - args.length) (.d .undef)) h (kFin env.P h.length false Try.f10.results.toList) :=
 xy (mode := 2) (by kernel_rfl) Try.func10 (by kernel_rfl) (by kernel_rfl) x7s (by kernel_rfl) (by kernel_rfl)
noncomputable def x5n : SC := slimL Try.f10 0
theorem x67 {R : Type} {call : CallF} {L nf n : Nat} {thaw : List Nat} {live m : List Bool} {s : List A} {h : H} {k : Exit → List A → H → Option R} : kLoop env call L nf thaw live (x1n 0) m (n + 1) s h k = kCode env call L nf thaw live x1n x5n s h (kNext env call L nf thaw live (x1n 0) m n k) :=
 kLoop_step x7s (by kernel_rfl)
noncomputable def x76 : SC := slimL Try.f10 1
theorem x8p {R : Type} {call : CallF} {L nf n : Nat} {thaw : List Nat} {live m : List Bool} {s : List A} {h : H} {k : Exit → List A → H → Option R} : kLoop env call L nf thaw live (x1n 1) m (n + 1) s h k = kCode env call L nf thaw live x1n x76 s h (kNext env call L nf thaw live (x1n 1) m n k) :=
 kLoop_step x7s (by kernel_rfl)
noncomputable def xjb : SC := slimF Try.f11
noncomputable def x6w : Nat → Code := lpOf Try.f11
theorem xhk : drawsOK (codeOf Try.f11) = true := by kernel_rfl
theorem xne {L n : Nat} {args : List A} {h : H} : evCall env L (n + 1) 11 args h = kCode env (evCall env L n) L h.length [] (Z2 (U4 (Z32 (Z8 (Z1 ([])))))) x6w xjb (args ++ List.replicate (Try.f11.ntmps - args.length) (.d .undef)) h (kFin env.P h.length false [.tmp 4]) :=
 xy (mode := 1) (by kernel_rfl) Try.func11 (by kernel_rfl) (by kernel_rfl) xhk (by kernel_rfl) (by kernel_rfl)
noncomputable def xbx : SC := slimL Try.f11 0
theorem xdn {R : Type} {call : CallF} {L nf n : Nat} {thaw : List Nat} {live m : List Bool} {s : List A} {h : H} {k : Exit → List A → H → Option R} : kLoop env call L nf thaw live (x6w 0) m (n + 1) s h k = kCode env call L nf thaw live x6w xbx s h (kNext env call L nf thaw live (x6w 0) m n k) :=
 kLoop_step xhk (by kernel_rfl)
noncomputable def xa2 : SC := slimF Try.f12
noncomputable def x9b : Nat → Code := lpOf Try.f12
theorem xkk : drawsOK (codeOf Try.f12) = true := by kernel_rfl
theorem xc0 {L n : Nat} {args : List A} {h : H} : evCall env L (n + 1) 12 args h = kCode env (evCall env L n) L h.length [0, 0, 0, 0, 0, 0, 0, 2] (U1 (Z2 (Z1 (U4 (Z32 (Z8 ([]))))))) x9b xa2 (args ++ List.replicate (Try.f12.ntmps - args.length) (.d .undef)) h (kFin env.P h.length false [.tmp 4, .tmp 5]) :=
 xy (mode := 1) (by kernel_rfl) Try.func12 (by kernel_rfl) (by kernel_rfl) xkk (by kernel_rfl) (by kernel_rfl)
noncomputable def x7x : SC := slimL Try.f12 0
theorem x77 {R : Type} {call : CallF} {L nf n : Nat} {thaw : List Nat} {live m : List Bool} {s : List A} {h : H} {k : Exit → List A → H → Option R} : kLoop env call L nf thaw live (x9b 0) m (n + 1) s h k = kCode env call L nf thaw live x9b x7x s h (kNext env call L nf thaw live (x9b 0) m n k) :=
 kLoop_step xkk (by kernel_rfl)
noncomputable def x82 : SC := slimF Try.f13
noncomputable def x63 : Nat → Code := lpOf Try.f13
theorem xep : drawsOK (codeOf Try.f13) = true := by kernel_rfl
theorem xa8 {L n : Nat} {args : List A} {h : H} : evCall env L (n + 1) 13 args h = kCode env (evCall env L n) L h.length [] (Z1 (U1 (Z2 (U2 (U1 (Z8 (Z4 (Z2 (U2 (Z8 (Z4 ([])))))))))))) x63 x82 (args ++ List.replicate (Try.f13.ntmps - args.length) (.d .undef)) h (kFin env.P h.length false [.tmp 4]) :=
 xy (mode := 1) (by kernel_rfl) Try.func13 (by kernel_rfl) (by kernel_rfl) xep (by kernel_rfl) (by kernel_rfl)
noncomputable def x9n : SC := slimL Try.f13 0
theorem xb3 {R : Type} {call : CallF} {L nf n : Nat} {thaw : List Nat} {live m : List Bool} {s : List A} {h : H} {k : Exit → List A → H → Option R} : kLoop env call L nf thaw live (x63 0) m (n + 1) s h k = kCode env call L nf thaw live x63 x9n s h (kNext env call L nf thaw live (x63 0) m n k) :=
 kLoop_step xep (by kernel_rfl)
noncomputable def x7g : SC := slimF Try.f14
noncomputable def x6y : Nat → Code := lpOf Try.f14
theorem xi2 : drawsOK (codeOf Try.f14) = true := by kernel_rfl
theorem x9h {L n : Nat} {args : List A} {h : H} : evCall env L (n + 1) 14 args h = kCode env (evCall env L n) L h.length [] (U2 (U1 (Z2 (Z1 (U2 (Z16 (Z2 (U2 (Z8 (Z4 (Z2 (Z1 ([]))))))))))))) x6y x7g (args ++ List.replicate (Try.f14.ntmps - args.length) (.d .undef)) h (kFin env.P h.length false [.tmp 6]) :=
 xy (mode := 1) (by kernel_rfl) Try.func14 (by kernel_rfl) (by kernel_rfl) xi2 (by kernel_rfl) (by kernel_rfl)
noncomputable def xbv : SC := slimL Try.f14 0
theorem xdp {R : Type} {call : CallF} {L nf n : Nat} {thaw : List Nat} {live m : List Bool} {s : List A} {h : H} {k : Exit → List A → H → Option R} : kLoop env call L nf thaw live (x6y 0) m (n + 1) s h k = kCode env call L nf thaw live x6y xbv s h (kNext env call L nf thaw live (x6y 0) m n k) :=
 kLoop_step xi2 (by kernel_rfl)
noncomputable def x2u : SC := slimF Try.f15
noncomputable def x1h : Nat → Code := lpOf Try.f15
theorem x71 : drawsOK (codeOf Try.f15) = true := by kernel_rfl
theorem x36 {L n : Nat} {args : List A} {h : H} : evCall env L (n + 1) 15 args h = kCode env (evCall env L n) L h.length [] (Z1 (U2 (U1 (Z32 (Z2 (U2 (U1 (Z4 (Z2 (Z1 (U2 (U1 (Z8 (Z4 (Z2 ([])))))))))))))))) x1h x2u (args ++ List.replicate (Try.f15.ntmps - args.length) (.d .undef)) h (kFin env.P h.length false [.tmp 2]) :=
 xy (mode := 1) (by kernel_rfl) Try.func15 (by kernel_rfl) (by kernel_rfl) x71 (by kernel_rfl) (by kernel_rfl)
noncomputable def x3n : SC := slimL Try.f15 0
theorem x41 {R : Type} {call : CallF} {L nf n : Nat} {thaw : List Nat} {live m : List Bool} {s : List A} {h : H} {k : Exit → List A → H → Option R} : kLoop env call L nf thaw live (x1h 0) m (n + 1) s h k = kCode env call L nf thaw live x1h x3n s h (kNext env call L nf thaw live (x1h 0) m n k) :=
 kLoop_step x71 (by kernel_rfl)
noncomputable def x3p : SC := slimL Try.f15 1
theorem x42 {R : Type} {call : CallF} {L nf n : Nat} {thaw : List Nat} {live m : List Bool} {s : List A} {h : H} {k : Exit → List A → H → Option R} : kLoop env call L nf thaw live (x1h 1) m (n + 1) s h k = kCode env call L nf thaw live x1h x3p s h (kNext env call L nf thaw live (x1h 1) m n k) :=
 kLoop_step x71 (by kernel_rfl)
noncomputable def x6n : SC := slimF Try.f28
noncomputable def x5z : Nat → Code := lpOf Try.f28
theorem xfh : drawsOK (codeOf Try.f28) = true := by kernel_rfl
theorem x7e {L n : Nat} {args : List A} {h : H} : evCall env L (n + 1) 28 args h = kCode env (evCall env L n) L h.length [] (U2 (Z2 (U1 (Z8 (Z2 (U2 (Z8 (Z1 ([]))))))))) x5z x6n (args ++ List.replicate (Try.f28.ntmps - args.length) (.d .undef)) h (kFin env.P h.length false [.tmp 4]) :=
 xy (mode := 1) (by kernel_rfl) Try.func28 (by kernel_rfl) (by kernel_rfl) xfh (by kernel_rfl) (by kernel_rfl)
noncomputable def x6v : SC := slimL Try.f28 0
theorem x75 {R : Type} {call : CallF} {L nf n : Nat} {thaw : List Nat} {live m : List Bool} {s : List A} {h : H} {k : Exit → List A → H → Option R} : kLoop env call L nf thaw live (x5z 0) m (n + 1) s h k = kCode env call L nf thaw live x5z x6v s h (kNext env call L nf thaw live (x5z 0) m n k) :=
 kLoop_step xfh (by kernel_rfl)
noncomputable def xfo : SC := slimF Try.f32
noncomputable def xnm : Nat → Code := lpOf Try.f32
theorem xnw : drawsOK (codeOf Try.f32) = true := by kernel_rfl
theorem xiu {L n : Nat} {args : List A} {h : H} : evCall env L (n + 1) 32 args h = kCode env (evCall env L n) L h.length [] ([]) xnm xfo (args ++ List.replicate (Try.f32.ntmps - args.length) (.d .undef)) h (kFin env.P h.length true [.tmp 2]) :=
 xy (mode := 2) (by kernel_rfl) Try.func32 (by kernel_rfl) (by kernel_rfl) xnw (by kernel_rfl) (by kernel_rfl)
noncomputable def xif : SC := slimF Try.f33
noncomputable def xp2 : Nat → Code := lpOf Try.f33
theorem xos : drawsOK (codeOf Try.f33) = true := by kernel_rfl
theorem xkv {L n : Nat} {args : List A} {h : H} : evCall env L (n + 1) 33 args h = kCode env (evCall env L n) L h.length [] ([]) xp2 xif (args ++ List.replicate (Try.f33.ntmps - args.length) (.d .undef)) h (kFin env.P h.length false Try.f33.results.toList) :=
 xy (mode := 0) (by kernel_rfl) Try.func33 (by kernel_rfl) (by kernel_rfl) xos (by kernel_rfl) (by kernel_rfl)
noncomputable def xaa : SC := slimF Try.f34
noncomputable def xo7 : Nat → Code := lpOf Try.f34
theorem xog : drawsOK (codeOf Try.f34) = true := by kernel_rfl
theorem xc2 {L n : Nat} {args : List A} {h : H} : evCall env L (n + 1) 34 args h = kCode env (evCall env L n) L h.length [] ([]) xo7 xaa (args ++ List.replicate (Try.f34.ntmps - args.length) (.d .undef)) h (kFin env.P h.length false [.tmp 2, .tmp 3]) :=
 xy (mode := 0) (by kernel_rfl) Try.func34 (by kernel_rfl) (by kernel_rfl) xog (by kernel_rfl) (by kernel_rfl)
noncomputable def xil : SC := slimF Try.f35
noncomputable def xni : Nat → Code := lpOf Try.f35
theorem xnj : drawsOK (codeOf Try.f35) = true := by kernel_rfl
theorem xna {L n : Nat} {args : List A} {h : H} : evCall env L (n + 1) 35 args h = kCode env (evCall env L n) L h.length [] ([]) xni xil (args ++ List.replicate (Try.f35.ntmps - args.length) (.d .undef)) h (kFin env.P h.length false [.tmp 2]) :=
 xy (mode := 1) (by kernel_rfl) Try.func35 (by kernel_rfl) (by kernel_rfl) xnj (by kernel_rfl) (by kernel_rfl)
noncomputable def xk5 : SC := slimF Try.f36
noncomputable def x25 : Nat → Code := lpOf Try.f36
theorem xa6 : drawsOK (codeOf Try.f36) = true := by kernel_rfl
theorem xo1 {L n : Nat} {args : List A} {h : H} : evCall env L (n + 1) 36 args h = kCode env (evCall env L n) L h.length [] (Z2 (U4 (U1 (Z8 (Z2 (Z1 (U2 (U1 (Z4 (U1 (Z8 (Z1 (U2 (U1 (Z16 ([])))))))))))))))) x25 xk5 (args ++ List.replicate (Try.f36.ntmps - args.length) (.d .undef)) h (kFin env.P h.length false [.tmp 2]) :=
 xy (mode := 2) (by kernel_rfl) Try.func36 (by kernel_rfl) (by kernel_rfl) xa6 (by kernel_rfl) (by kernel_rfl)
noncomputable def xcy : SC := slimL Try.f36 0
theorem xen {R : Type} {call : CallF} {L nf n : Nat} {thaw : List Nat} {live m : List Bool} {s : List A} {h : H} {k : Exit → List A → H → Option R} : kLoop env call L nf thaw live (x25 0) m (n + 1) s h k = kCode env call L nf thaw live x25 xcy s h (kNext env call L nf thaw live (x25 0) m n k) :=
 kLoop_step xa6 (by kernel_rfl)
noncomputable def xcw : SC := slimL Try.f36 1
theorem xe8 {R : Type} {call : CallF} {L nf n : Nat} {thaw : List Nat} {live m : List Bool} {s : List A} {h : H} {k : Exit → List A → H → Option R} : kLoop env call L nf thaw live (x25 1) m (n + 1) s h k = kCode env call L nf thaw live x25 xcw s h (kNext env call L nf thaw live (x25 1) m n k) :=
 kLoop_step xa6 (by kernel_rfl)
noncomputable def xcx : SC := slimL Try.f36 2
theorem xeh {R : Type} {call : CallF} {L nf n : Nat} {thaw : List Nat} {live m : List Bool} {s : List A} {h : H} {k : Exit → List A → H → Option R} : kLoop env call L nf thaw live (x25 2) m (n + 1) s h k = kCode env call L nf thaw live x25 xcx s h (kNext env call L nf thaw live (x25 2) m n k) :=
 kLoop_step xa6 (by kernel_rfl)
noncomputable def x5j : SC := slimF Try.f37
noncomputable def x3q : Nat → Code := lpOf Try.f37
theorem xdf : drawsOK (codeOf Try.f37) = true := by kernel_rfl
theorem x6c {L n : Nat} {args : List A} {h : H} : evCall env L (n + 1) 37 args h = kCode env (evCall env L n) L h.length [] (Z1 (U2 (Z2 (Z1 (U2 (Z16 (U2 (U1 (Z8 (Z4 ([]))))))))))) x3q x5j (args ++ List.replicate (Try.f37.ntmps - args.length) (.d .undef)) h (kFin env.P h.length false [.tmp 6]) :=
 xy (mode := 1) (by kernel_rfl) Try.func37 (by kernel_rfl) (by kernel_rfl) xdf (by kernel_rfl) (by kernel_rfl)
noncomputable def x7k : SC := slimL Try.f37 0
theorem x9o {R : Type} {call : CallF} {L nf n : Nat} {thaw : List Nat} {live m : List Bool} {s : List A} {h : H} {k : Exit → List A → H → Option R} : kLoop env call L nf thaw live (x3q 0) m (n + 1) s h k = kCode env call L nf thaw live x3q x7k s h (kNext env call L nf thaw live (x3q 0) m n k) :=
 kLoop_step xdf (by kernel_rfl)
theorem xch {L n : Nat} {args : List A} {h : H} : evCall env L (n + 1) 38 args h = gClone 1 args h := by
 have : env.prim 38 = some (gClone 1) := by kernel_rfl
 simp only [evCall, this]
noncomputable def xhg : SC := slimF Try.f39
noncomputable def x5h : Nat → Code := lpOf Try.f39
theorem xgp : drawsOK (codeOf Try.f39) = true := by kernel_rfl
theorem xm6 {L n : Nat} {args : List A} {h : H} : evCall env L (n + 1) 39 args h = kCode env (evCall env L n) L h.length [0, 0, 0, 2] (U1 (Z1 (U2 (Z1 (U1 (Z8 (Z2 (Z1 ([]))))))))) x5h xhg (args ++ List.replicate (Try.f39.ntmps - args.length) (.d .undef)) h (kFin env.P h.length false [.tmp 2]) :=
 xy (mode := 2) (by kernel_rfl) Try.func39 (by kernel_rfl) (by kernel_rfl) xgp (by kernel_rfl) (by kernel_rfl)
noncomputable def x78 : SC := slimL Try.f39 0
theorem x7r {R : Type} {call : CallF} {L nf n : Nat} {thaw : List Nat} {live m : List Bool} {s : List A} {h : H} {k : Exit → List A → H → Option R} : kLoop env call L nf thaw live (x5h 0) m (n + 1) s h k = kCode env call L nf thaw live x5h x78 s h (kNext env call L nf thaw live (x5h 0) m n k) :=
 kLoop_step xgp (by kernel_rfl)
noncomputable def xk2 : SC := slimF Try.f40
noncomputable def xns : Nat → Code := lpOf Try.f40
theorem xnk : drawsOK (codeOf Try.f40) = true := by kernel_rfl
theorem xo2 {L n : Nat} {args : List A} {h : H} : evCall env L (n + 1) 40 args h = kCode env (evCall env L n) L h.length [] ([]) xns xk2 (args ++ List.replicate (Try.f40.ntmps - args.length) (.d .undef)) h (kFin env.P h.length false [.tmp 6]) :=
 xy (mode := 1) (by kernel_rfl) Try.func40 (by kernel_rfl) (by kernel_rfl) xnk (by kernel_rfl) (by kernel_rfl)
noncomputable def x2t : SC := slimF Try.f41
noncomputable def x4c : Nat → Code := lpOf Try.f41
theorem xbb : drawsOK (codeOf Try.f41) = true := by kernel_rfl
theorem x34 {L n : Nat} {args : List A} {h : H} : evCall env L (n + 1) 41 args h = kCode env (evCall env L n) L h.length [] (Z1 (U4 (Z32 (Z4 (Z2 (Z1 ([]))))))) x4c x2t (args ++ List.replicate (Try.f41.ntmps - args.length) (.d .undef)) h (kFin env.P h.length false [.tmp 2]) :=
 xy (mode := 1) (by kernel_rfl) Try.func41 (by kernel_rfl) (by kernel_rfl) xbb (by kernel_rfl) (by kernel_rfl)
noncomputable def x5e : SC := slimL Try.f41 0
theorem x5u {R : Type} {call : CallF} {L nf n : Nat} {thaw : List Nat} {live m : List Bool} {s : List A} {h : H} {k : Exit → List A → H → Option R} : kLoop env call L nf thaw live (x4c 0) m (n + 1) s h k = kCode env call L nf thaw live x4c x5e s h (kNext env call L nf thaw live (x4c 0) m n k) :=
 kLoop_step xbb (by kernel_rfl)
noncomputable def xi5 : SC := slimF Try.f42
noncomputable def xm7 : Nat → Code := lpOf Try.f42
theorem xmj : drawsOK (codeOf Try.f42) = true := by kernel_rfl
theorem xmd {L n : Nat} {args : List A} {h : H} : evCall env L (n + 1) 42 args h = kCode env (evCall env L n) L h.length [] ([]) xm7 xi5 (args ++ List.replicate (Try.f42.ntmps - args.length) (.d .undef)) h (kFin env.P h.length false [.tmp 2]) :=
 xy (mode := 1) (by kernel_rfl) Try.func42 (by kernel_rfl) (by kernel_rfl) xmj (by kernel_rfl) (by kernel_rfl)
noncomputable def x5k : SC := slimF Try.f43
noncomputable def x3r : Nat → Code := lpOf Try.f43
theorem xdo : drawsOK (codeOf Try.f43) = true := by kernel_rfl
theorem x6f {L n : Nat} {args : List A} {h : H} : evCall env L (n + 1) 43 args h = kCode env (evCall env L n) L h.length [] (U2 (U1 (Z2 (Z1 (U2 (U1 (Z16 (Z8 (Z4 ([])))))))))) x3r x5k (args ++ List.replicate (Try.f43.ntmps - args.length) (.d .undef)) h (kFin env.P h.length false [.tmp 6]) :=
 xy (mode := 1) (by kernel_rfl) Try.func43 (by kernel_rfl) (by kernel_rfl) xdo (by kernel_rfl) (by kernel_rfl)
noncomputable def x7p : SC := slimL Try.f43 0
theorem x9p {R : Type} {call : CallF} {L nf n : Nat} {thaw : List Nat} {live m : List Bool} {s : List A} {h : H} {k : Exit → List A → H → Option R} : kLoop env call L nf thaw live (x3r 0) m (n + 1) s h k = kCode env call L nf thaw live x3r x7p s h (kNext env call L nf thaw live (x3r 0) m n k) :=
 kLoop_step xdo (by kernel_rfl)
noncomputable def xht : SC := slimF Try.f44
noncomputable def x6j : Nat → Code := lpOf Try.f44
theorem xg1 : drawsOK (codeOf Try.f44) = true := by kernel_rfl
theorem xm9 {L n : Nat} {args : List A} {h : H} : evCall env L (n + 1) 44 args h = kCode env (evCall env L n) L h.length [] (U1 (Z1 (U2 (U1 (Z8 (Z4 (Z1 ([])))))))) x6j xht (args ++ List.replicate (Try.f44.ntmps - args.length) (.d .undef)) h (kFin env.P h.length false [.tmp 2]) :=
 xy (mode := 2) (by kernel_rfl) Try.func44 (by kernel_rfl) (by kernel_rfl) xg1 (by kernel_rfl) (by kernel_rfl)
noncomputable def x7a : SC := slimL Try.f44 0
theorem x7t {R : Type} {call : CallF} {L nf n : Nat} {thaw : List Nat} {live m : List Bool} {s : List A} {h : H} {k : Exit → List A → H → Option R} : kLoop env call L nf thaw live (x6j 0) m (n + 1) s h k = kCode env call L nf thaw live x6j x7a s h (kNext env call L nf thaw live (x6j 0) m n k) :=
 kLoop_step xg1 (by kernel_rfl)
noncomputable def xkq : SC := slimF Try.f45
noncomputable def xpa : Nat → Code := lpOf Try.f45
theorem xpf : drawsOK (codeOf Try.f45) = true := by kernel_rfl
theorem xmr {L n : Nat} {args : List A} {h : H} : evCall env L (n + 1) 45 args h = kCode env (evCall env L n) L h.length [] ([]) xpa xkq (args ++ List.replicate (Try.f45.ntmps - args.length) (.d .undef)) h (kFin env.P h.length false [.tmp 6]) :=
 xy (mode := 1) (by kernel_rfl) Try.func45 (by kernel_rfl) (by kernel_rfl) xpf (by kernel_rfl) (by kernel_rfl)
noncomputable def xke : SC := slimF Try.f46
noncomputable def xo3 : Nat → Code := lpOf Try.f46
theorem xnt : drawsOK (codeOf Try.f46) = true := by kernel_rfl
theorem xnn {L n : Nat} {args : List A} {h : H} : evCall env L (n + 1) 46 args h = kCode env (evCall env L n) L h.length [] ([]) xo3 xke (args ++ List.replicate (Try.f46.ntmps - args.length) (.d .undef)) h (kFin env.P h.length false [.tmp 6]) :=
 xy (mode := 1) (by kernel_rfl) Try.func46 (by kernel_rfl) (by kernel_rfl) xnt (by kernel_rfl) (by kernel_rfl)
noncomputable def xmz : SC := slimF Try.f47
noncomputable def xah : Nat → Code := lpOf Try.f47
theorem xla : drawsOK (codeOf Try.f47) = true := by kernel_rfl
theorem xou {L n : Nat} {args : List A} {h : H} : evCall env L (n + 1) 47 args h = kCode env (evCall env L n) L h.length [] (U2 (Z2 (U2 (Z16 (Z4 ([])))))) xah xmz (args ++ List.replicate (Try.f47.ntmps - args.length) (.d .undef)) h (kFin env.P h.length false [.tmp 4]) :=
 xy (mode := 1) (by kernel_rfl) Try.func47 (by kernel_rfl) (by kernel_rfl) xla (by kernel_rfl) (by kernel_rfl)
noncomputable def xfs : SC := slimL Try.f47 0
theorem xg4 {R : Type} {call : CallF} {L nf n : Nat} {thaw : List Nat} {live m : List Bool} {s : List A} {h : H} {k : Exit → List A → H → Option R} : kLoop env call L nf thaw live (xah 0) m (n + 1) s h k = kCode env call L nf thaw live xah xfs s h (kNext env call L nf thaw live (xah 0) m n k) :=
 kLoop_step xla (by kernel_rfl)
noncomputable def xnv : SC := slimF Try.f48
noncomputable def xcm : Nat → Code := lpOf Try.f48
theorem xmy : drawsOK (codeOf Try.f48) = true := by kernel_rfl
theorem xpc {L n : Nat} {args : List A} {h : H} : evCall env L (n + 1) 48 args h = kCode env (evCall env L n) L h.length [] (U2 (Z2 (U2 (Z16 (Z4 ([])))))) xcm xnv (args ++ List.replicate (Try.f48.ntmps - args.length) (.d .undef)) h (kFin env.P h.length false [.tmp 4]) :=
 xy (mode := 1) (by kernel_rfl) Try.func48 (by kernel_rfl) (by kernel_rfl) xmy (by kernel_rfl) (by kernel_rfl)
noncomputable def xh2 : SC := slimL Try.f48 0
theorem xi0 {R : Type} {call : CallF} {L nf n : Nat} {thaw : List Nat} {live m : List Bool} {s : List A} {h : H} {k : Exit → List A → H → Option R} : kLoop env call L nf thaw live (xcm 0) m (n + 1) s h k = kCode env call L nf thaw live xcm xh2 s h (kNext env call L nf thaw live (xcm 0) m n k) :=
 kLoop_step xmy (by kernel_rfl)
noncomputable def xgn : SC := slimF Try.f49
noncomputable def xlw : Nat → Code := lpOf Try.f49
theorem xm2 : drawsOK (codeOf Try.f49) = true := by kernel_rfl
theorem xlb {L n : Nat} {args : List A} {h : H} : evCall env L (n + 1) 49 args h = kCode env (evCall env L n) L h.length [] ([]) xlw xgn (args ++ List.replicate (Try.f49.ntmps - args.length) (.d .undef)) h (kFin env.P h.length false [.tmp 2]) :=
 xy (mode := 1) (by kernel_rfl) Try.func49 (by kernel_rfl) (by kernel_rfl) xm2 (by kernel_rfl) (by kernel_rfl)
noncomputable def xgv : SC := slimF Try.f50
noncomputable def xle : Nat → Code := lpOf Try.f50
theorem xlj : drawsOK (codeOf Try.f50) = true := by kernel_rfl
theorem xl0 {L n : Nat} {args : List A} {h : H} : evCall env L (n + 1) 50 args h = kCode env (evCall env L n) L h.length [] ([]) xle xgv (args ++ List.replicate (Try.f50.ntmps - args.length) (.d .undef)) h (kFin env.P h.length false [.tmp 2]) :=
 xy (mode := 1) (by kernel_rfl) Try.func50 (by kernel_rfl) (by kernel_rfl) xlj (by kernel_rfl) (by kernel_rfl)
noncomputable def x6x : SC := slimF Try.f51
noncomputable def x1j : Nat → Code := lpOf Try.f51
theorem x6p : drawsOK (codeOf Try.f51) = true := by kernel_rfl
theorem xcj {L n : Nat} {args : List A} {h : H} : evCall env L (n + 1) 51 args h = kCode env (evCall env L n) L h.length [] (U1 (Z1 (U2 (Z16 (Z8 ([])))))) x1j x6x (args ++ List.replicate (Try.f51.ntmps - args.length) (.d .undef)) h (kFin env.P h.length false []) :=
 xy (mode := 0) (by kernel_rfl) Try.func51 (by kernel_rfl) (by kernel_rfl) x6p (by kernel_rfl) (by kernel_rfl)
noncomputable def x2y : SC := slimL Try.f51 0
theorem x3e {R : Type} {call : CallF} {L nf n : Nat} {thaw : List Nat} {live m : List Bool} {s : List A} {h : H} {k : Exit → List A → H → Option R} : kLoop env call L nf thaw live (x1j 0) m (n + 1) s h k = kCode env call L nf thaw live x1j x2y s h (kNext env call L nf thaw live (x1j 0) m n k) :=
 kLoop_step x6p (by kernel_rfl)
noncomputable def xja : SC := slimF Try.f52
noncomputable def xng : Nat → Code := lpOf Try.f52
theorem xn5 : drawsOK (codeOf Try.f52) = true := by kernel_rfl
theorem xn8 {L n : Nat} {args : List A} {h : H} : evCall env L (n + 1) 52 args h = kCode env (evCall env L n) L h.length [] ([]) xng xja (args ++ List.replicate (Try.f52.ntmps - args.length) (.d .undef)) h (kFin env.P h.length false [.tmp 4]) :=
 xy (mode := 1) (by kernel_rfl) Try.func52 (by kernel_rfl) (by kernel_rfl) xn5 (by kernel_rfl) (by kernel_rfl)
noncomputable def xi6 : SC := slimF Try.f53
noncomputable def xmb : Nat → Code := lpOf Try.f53
theorem xm4 : drawsOK (codeOf Try.f53) = true := by kernel_rfl
theorem xma {L n : Nat} {args : List A} {h : H} : evCall env L (n + 1) 53 args h = kCode env (evCall env L n) L h.length [] ([]) xmb xi6 (args ++ List.replicate (Try.f53.ntmps - args.length) (.d .undef)) h (kFin env.P h.length false [.tmp 2]) :=
 xy (mode := 1) (by kernel_rfl) Try.func53 (by kernel_rfl) (by kernel_rfl) xm4 (by kernel_rfl) (by kernel_rfl)
noncomputable def xon : SC := slimF Try.f68
noncomputable def xpo : Nat → Code := lpOf Try.f68
theorem xpp : drawsOK (codeOf Try.f68) = true := by kernel_rfl
theorem xpl {L n : Nat} {args : List A} {h : H} : evCall env L (n + 1) 68 args h = kCode env (evCall env L n) L h.length [] ([]) xpo xon (args ++ List.replicate (Try.f68.ntmps - args.length) (.d .undef)) h (kFin env.P h.length false [.tmp 4]) :=
 xy (mode := 1) (by kernel_rfl) Try.func68 (by kernel_rfl) (by kernel_rfl) xpp (by kernel_rfl) (by kernel_rfl)
noncomputable def x6i : SC := slimF Try.f74
noncomputable def xkt : Nat → Code := lpOf Try.f74
theorem xkx : drawsOK (codeOf Try.f74) = true := by kernel_rfl
theorem x79 {L n : Nat} {args : List A} {h : H} : evCall env L (n + 1) 74 args h = kCode env (evCall env L n) L h.length [] ([]) xkt x6i (args ++ List.replicate (Try.f74.ntmps - args.length) (.d .undef)) h (kFin env.P h.length false [.tmp 4]) :=
 xy (mode := 0) (by kernel_rfl) Try.func74 (by kernel_rfl) (by kernel_rfl) xkx (by kernel_rfl) (by kernel_rfl)
noncomputable def xmp : SC := slimF Try.f75
noncomputable def x83 : Nat → Code := lpOf Try.f75
theorem xm0 : drawsOK (codeOf Try.f75) = true := by kernel_rfl
theorem xp4 {L n : Nat} {args : List A} {h : H} : evCall env L (n + 1) 75 args h = kCode env (evCall env L n) L h.length [] (U1 (Z1 (U2 (U1 (Z16 (Z8 (Z4 (Z2 (Z1 ([])))))))))) x83 xmp (args ++ List.replicate (Try.f75.ntmps - args.length) (.d .undef)) h (kFin env.P h.length false Try.f75.results.toList) :=
 xy (mode := 0) (by kernel_rfl) Try.func75 (by kernel_rfl) (by kernel_rfl) xm0 (by kernel_rfl) (by kernel_rfl)
noncomputable def xc1 : SC := slimL Try.f75 0
theorem xbu {R : Type} {call : CallF} {L nf n : Nat} {thaw : List Nat} {live m : List Bool} {s : List A} {h : H} {k : Exit → List A → H → Option R} : kLoop env call L nf thaw live (x83 0) m (n + 1) s h k = kCode env call L nf thaw live x83 xc1 s h (kNext env call L nf thaw live (x83 0) m n k) :=
 kLoop_step xm0 (by kernel_rfl)
noncomputable def x4o : SC := slimF Try.f76
noncomputable def x7n : Nat → Code := lpOf Try.f76
theorem xic : drawsOK (codeOf Try.f76) = true := by kernel_rfl
theorem x4r {L n : Nat} {args : List A} {h : H} : evCall env L (n + 1) 76 args h = kCode env (evCall env L n) L h.length [0, 0, 0, 0, 0, 0, 0, 0, 0, 0, 0, 0, 0, 0, 0, 0, 0, 0, 0, 0, 0, 0, 0, 0, 0, 0, 0, 0, 0, 0, 0, 0, 0, 0, 0, 0, 0, 0, 0, 0, 0, 0, 0, 0, 0, 0, 0, 0, 0, 0, 0, 0, 0, 0, 0, 0, 0, 0, 0, 0, 0, 0, 0, 0, 0, 0, 0, 0, 0, 0, 0, 0, 0, 0, 0, 0, 0, 0, 0, 0, 0, 0, 0, 1002, 0, 0, 0, 0, 0, 0, 0, 0, 0, 0, 0, 0, 0, 0, 0, 0, 0, 0, 0, 0, 0, 1002] (Z4 (U2 (U1 (Z32 (Z32 (Z32 (Z8 (Z2 (Z1 ([])))))))))) x7n x4o (args ++ List.replicate (Try.f76.ntmps - args.length) (.d .undef)) h (kFin env.P h.length false Try.f76.results.toList) :=
 xy (mode := 0) (by kernel_rfl) Try.func76 (by kernel_rfl) (by kernel_rfl) xic (by kernel_rfl) (by kernel_rfl)
noncomputable def xcs : SC := slimL Try.f76 0
theorem xdr {R : Type} {call : CallF} {L nf n : Nat} {thaw : List Nat} {live m : List Bool} {s : List A} {h : H} {k : Exit → List A → H → Option R} : kLoop env call L nf thaw live (x7n 0) m (n + 1) s h k = kCode env call L nf thaw live x7n xcs s h (kNext env call L nf thaw live (x7n 0) m n k) :=
 kLoop_step xic (by kernel_rfl)
noncomputable def xhb : SC := slimF Try.f77
noncomputable def xo6 : Nat → Code := lpOf Try.f77
theorem xod : drawsOK (codeOf Try.f77) = true := by kernel_rfl
theorem xjx {L n : Nat} {args : List A} {h : H} : evCall env L (n + 1) 77 args h = kCode env (evCall env L n) L h.length [] ([]) xo6 xhb (args ++ List.replicate (Try.f77.ntmps - args.length) (.d .undef)) h (kFin env.P h.length false Try.f77.results.toList) :=
 xy (mode := 0) (by kernel_rfl) Try.func77 (by kernel_rfl) (by kernel_rfl) xod (by kernel_rfl) (by kernel_rfl)
noncomputable def xhq : SC := slimF Try.f78
noncomputable def xm5 : Nat → Code := lpOf Try.f78
theorem xmi : drawsOK (codeOf Try.f78) = true := by kernel_rfl
theorem xme {L n : Nat} {args : List A} {h : H} : evCall env L (n + 1) 78 args h = kCode env (evCall env L n) L h.length [] ([]) xm5 xhq (args ++ List.replicate (Try.f78.ntmps - args.length) (.d .undef)) h (kFin env.P h.length false [.tmp 4]) :=
 xy (mode := 0) (by kernel_rfl) Try.func78 (by kernel_rfl) (by kernel_rfl) xmi (by kernel_rfl) (by kernel_rfl)
noncomputable def xgg : SC := slimF Try.f79
noncomputable def xls : Nat → Code := lpOf Try.f79
theorem xlx : drawsOK (codeOf Try.f79) = true := by kernel_rfl
theorem xlv {L n : Nat} {args : List A} {h : H} : evCall env L (n + 1) 79 args h = kCode env (evCall env L n) L h.length [] ([]) xls xgg (args ++ List.replicate (Try.f79.ntmps - args.length) (.d .undef)) h (kFin env.P h.length false [.tmp 2]) :=
 xy (mode := 1) (by kernel_rfl) Try.func79 (by kernel_rfl) (by kernel_rfl) xlx (by kernel_rfl) (by kernel_rfl)
noncomputable def xf0 : SC := slimF Try.f80
noncomputable def x9y : Nat → Code := lpOf Try.f80
theorem xl4 : drawsOK (codeOf Try.f80) = true := by kernel_rfl
theorem xh3 {L n : Nat} {args : List A} {h : H} : evCall env L (n + 1) 80 args h = kCode env (evCall env L n) L h.length [] (U1 (Z1 (U1 (Z2 (Z1 (U2 (Z16 (Z4 (Z2 (Z1 ([]))))))))))) x9y xf0 (args ++ List.replicate (Try.f80.ntmps - args.length) (.d .undef)) h (kFin env.P h.length false [.tmp 6]) :=
 xy (mode := 1) (by kernel_rfl) Try.func80 (by kernel_rfl) (by kernel_rfl) xl4 (by kernel_rfl) (by kernel_rfl)
noncomputable def x8u : SC := slimL Try.f80 0
theorem x84 {R : Type} {call : CallF} {L nf n : Nat} {thaw : List Nat} {live m : List Bool} {s : List A} {h : H} {k : Exit → List A → H → Option R} : kLoop env call L nf thaw live (x9y 0) m (n + 1) s h k = kCode env call L nf thaw live x9y x8u s h (kNext env call L nf thaw live (x9y 0) m n k) :=
 kLoop_step xl4 (by kernel_rfl)
noncomputable def xml : SC := slimF Try.f81
noncomputable def xp0 : Nat → Code := lpOf Try.f81
theorem xov : drawsOK (codeOf Try.f81) = true := by kernel_rfl
theorem xp1 {L n : Nat} {args : List A} {h : H} : evCall env L (n + 1) 81 args h = kCode env (evCall env L n) L h.length [] ([]) xp0 xml (args ++ List.replicate (Try.f81.ntmps - args.length) (.d .undef)) h (kFin env.P h.length false [.tmp 4]) :=
 xy (mode := 1) (by kernel_rfl) Try.func81 (by kernel_rfl) (by kernel_rfl) xov (by kernel_rfl) (by kernel_rfl)
noncomputable def xn1 : SC := slimF Try.f82
noncomputable def xow : Nat → Code := lpOf Try.f82
theorem xoq : drawsOK (codeOf Try.f82) = true := by kernel_rfl
theorem xox {L n : Nat} {args : List A} {h : H} : evCall env L (n + 1) 82 args h = kCode env (evCall env L n) L h.length [] ([]) xow xn1 (args ++ List.replicate (Try.f82.ntmps - args.length) (.d .undef)) h (kFin env.P h.length false [.tmp 2]) :=
 xy (mode := 1) (by kernel_rfl) Try.func82 (by kernel_rfl) (by kernel_rfl) xoq (by kernel_rfl) (by kernel_rfl)
noncomputable def xkd : SC := slimF Try.f83
noncomputable def x7m : Nat → Code := lpOf Try.f83
theorem xjj : drawsOK (codeOf Try.f83) = true := by kernel_rfl
theorem xnx {L n : Nat} {args : List A} {h : H} : evCall env L (n + 1) 83 args h = kCode env (evCall env L n) L h.length [] (U2 (Z2 (U2 (U1 (Z8 (Z2 (Z1 ([])))))))) x7m xkd (args ++ List.replicate (Try.f83.ntmps - args.length) (.d .undef)) h (kFin env.P h.length false [.tmp 4]) :=
 xy (mode := 1) (by kernel_rfl) Try.func83 (by kernel_rfl) (by kernel_rfl) xjj (by kernel_rfl) (by kernel_rfl)
noncomputable def x9i : SC := slimL Try.f83 0
theorem x9l {R : Type} {call : CallF} {L nf n : Nat} {thaw : List Nat} {live m : List Bool} {s : List A} {h : H} {k : Exit → List A → H → Option R} : kLoop env call L nf thaw live (x7m 0) m (n + 1) s h k = kCode env call L nf thaw live x7m x9i s h (kNext env call L nf thaw live (x7m 0) m n k) :=
 kLoop_step xjj (by kernel_rfl)
noncomputable def xl3 : SC := slimF Try.f103
noncomputable def x68 : Nat → Code := lpOf Try.f103
theorem xk8 : drawsOK (codeOf Try.f103) = true := by kernel_rfl
theorem xoa {L n : Nat} {args : List A} {h : H} : evCall env L (n + 1) 103 args h = kCode env (evCall env L n) L h.length [0, 0, 0, 0, 0, 0, 0, 0, 0, 0, 0, 0, 0, 0, 0, 0, 0, 0, 0, 0, 0, 0, 0, 0, 0, 0, 0, 0, 1002] (Z1 (U4 (Z16 (Z8 (Z2 (Z1 ([]))))))) x68 xl3 (args ++ List.replicate (Try.f103.ntmps - args.length) (.d .undef)) h (kFin env.P h.length true Try.f103.results.toList) :=
 xy (mode := 2) (by kernel_rfl) Try.func103 (by kernel_rfl) (by kernel_rfl) xk8 (by kernel_rfl) (by kernel_rfl)
noncomputable def xao : SC := slimL Try.f103 0
theorem xac {R : Type} {call : CallF} {L nf n : Nat} {thaw : List Nat} {live m : List Bool} {s : List A} {h : H} {k : Exit → List A → H → Option R} : kLoop env call L nf thaw live (x68 0) m (n + 1) s h k = kCode env call L nf thaw live x68 xao s h (kNext env call L nf thaw live (x68 0) m n k) :=
 kLoop_step xk8 (by kernel_rfl)
noncomputable def xii : SC := slimF Try.f105
noncomputable def xnh : Nat → Code := lpOf Try.f105
theorem xnf : drawsOK (codeOf Try.f105) = true := by kernel_rfl
theorem xn4 {L n : Nat} {args : List A} {h : H} : evCall env L (n + 1) 105 args h = kCode env (evCall env L n) L h.length [] ([]) xnh xii (args ++ List.replicate (Try.f105.ntmps - args.length) (.d .undef)) h (kFin env.P h.length false [.tmp 4]) :=
 xy (mode := 0) (by kernel_rfl) Try.func105 (by kernel_rfl) (by kernel_rfl) xnf (by kernel_rfl) (by kernel_rfl)
noncomputable def xha : SC := slimF Try.f107
noncomputable def xof : Nat → Code := lpOf Try.f107
theorem xo8 : drawsOK (codeOf Try.f107) = true := by kernel_rfl
theorem xkg {L n : Nat} {args : List A} {h : H} : evCall env L (n + 1) 107 args h = kCode env (evCall env L n) L h.length [] ([]) xof xha (args ++ List.replicate (Try.f107.ntmps - args.length) (.d .undef)) h (kFin env.P h.length false Try.f107.results.toList) :=
 xy (mode := 0) (by kernel_rfl) Try.func107 (by kernel_rfl) (by kernel_rfl) xo8 (by kernel_rfl) (by kernel_rfl)
noncomputable def xlz : SC := slimF Try.f137
noncomputable def x3l : Nat → Code := lpOf Try.f137
theorem xft : drawsOK (codeOf Try.f137) = true := by kernel_rfl
theorem xoe {L n : Nat} {args : List A} {h : H} : evCall env L (n + 1) 137 args h = kCode env (evCall env L n) L h.length [] (Z2 (U1 (Z2 (Z1 (U4 (Z32 (Z4 (Z2 (Z1 ([])))))))))) x3l xlz (args ++ List.replicate (Try.f137.ntmps - args.length) (.d .undef)) h (kFin env.P h.length false Try.f137.results.toList) :=
 xy (mode := 0) (by kernel_rfl) Try.func137 (by kernel_rfl) (by kernel_rfl) xft (by kernel_rfl) (by kernel_rfl)
noncomputable def xe4 : SC := slimL Try.f137 0
theorem xf5 {R : Type} {call : CallF} {L nf n : Nat} {thaw : List Nat} {live m : List Bool} {s : List A} {h : H} {k : Exit → List A → H → Option R} : kLoop env call L nf thaw live (x3l 0) m (n + 1) s h k = kCode env call L nf thaw live x3l xe4 s h (kNext env call L nf thaw live (x3l 0) m n k) :=
 kLoop_step xft (by kernel_rfl)
noncomputable def xeg : SC := slimL Try.f137 1
theorem xf3 {R : Type} {call : CallF} {L nf n : Nat} {thaw : List Nat} {live m : List Bool} {s : List A} {h : H} {k : Exit → List A → H → Option R} : kLoop env call L nf thaw live (x3l 1) m (n + 1) s h k = kCode env call L nf thaw live x3l xeg s h (kNext env call L nf thaw live (x3l 1) m n k) :=
 kLoop_step xft (by kernel_rfl)
noncomputable def xjc : SC := slimF Try.f138
noncomputable def x2k : Nat → Code := lpOf Try.f138
theorem xcv : drawsOK (codeOf Try.f138) = true := by kernel_rfl
theorem xn9 {L n : Nat} {args : List A} {h : H} : evCall env L (n + 1) 138 args h = kCode env (evCall env L n) L h.length [0, 0, 0, 0, 0, 0, 0, 0, 0, 0, 0, 0, 0, 0, 0, 0, 0, 0, 0, 0, 0, 0, 0, 0, 0, 0, 0, 0, 0, 0, 0, 0, 0, 0, 0, 0, 0, 1002] (U1 (Z1 (U1 (Z2 (Z1 (U4 (U2 (Z32 (Z4 (Z1 ([]))))))))))) x2k xjc (args ++ List.replicate (Try.f138.ntmps - args.length) (.d .undef)) h (kFin env.P h.length true Try.f138.results.toList) :=
 xy (mode := 0) (by kernel_rfl) Try.func138 (by kernel_rfl) (by kernel_rfl) xcv (by kernel_rfl) (by kernel_rfl)
noncomputable def x81 : SC := slimL Try.f138 0
theorem x8j {R : Type} {call : CallF} {L nf n : Nat} {thaw : List Nat} {live m : List Bool} {s : List A} {h : H} {k : Exit → List A → H → Option R} : kLoop env call L nf thaw live (x2k 0) m (n + 1) s h k = kCode env call L nf thaw live x2k x81 s h (kNext env call L nf thaw live (x2k 0) m n k) :=
 kLoop_step xcv (by kernel_rfl)
noncomputable def x6l : SC := slimL Try.f138 1
theorem x6d {R : Type} {call : CallF} {L nf n : Nat} {thaw : List Nat} {live m : List Bool} {s : List A} {h : H} {k : Exit → List A → H → Option R} : kLoop env call L nf thaw live (x2k 1) m (n + 1) s h k = kCode env call L nf thaw live x2k x6l s h (kNext env call L nf thaw live (x2k 1) m n k) :=
 kLoop_step xcv (by kernel_rfl)
end Ev
end Go.Proofs.Ytppdfjdfjfoddaa
