/-
  What the evaluator is told of each function, and each function's code as an equation. Written by a program.
-/
import Derived.Test.YtaapbkmfcmaphaaEvWalk
import Derived.Test.YtaapbkmfcmaphaaChecked
namespace Go.Proofs.Ytaapbkmfcmaphaa
namespace Ev

noncomputable def hints : List (Nat × Hint) := [
  (3, { mode := 1, exp := false, thaw := [], live := ([]) }),
  (4, { mode := 1, exp := false, thaw := [], live := ([]) }),
  (5, { mode := 1, exp := false, thaw := [], live := ([]) }),
  (6, { mode := 1, exp := false, thaw := [], live := (true :: true :: true :: false :: false :: false :: true :: true :: true :: false :: false :: false :: false :: false :: false :: false :: false :: false :: false :: false :: false :: false :: false :: false :: false :: false :: false :: false :: false :: false :: false :: false :: false :: false :: false :: false :: false :: []) }),
  (7, { mode := 1, exp := false, thaw := [], live := (false :: true :: true :: false :: false :: false :: true :: true :: false :: false :: false :: false :: false :: false :: false :: false :: false :: false :: false :: false :: false :: false :: false :: false :: true :: true :: true :: false :: false :: false :: false :: false :: false :: false :: false :: false :: false :: false :: false :: []) }),
  (8, { mode := 1, exp := false, thaw := [], live := (true :: true :: true :: false :: false :: false :: true :: true :: true :: false :: false :: false :: false :: false :: false :: false :: false :: false :: false :: false :: false :: false :: false :: false :: false :: false :: false :: false :: false :: false :: false :: false :: false :: false :: false :: false :: false :: false :: false :: false :: false :: false :: []) }),
  (9, { mode := 1, exp := false, thaw := [], live := (true :: true :: true :: false :: false :: false :: true :: true :: false :: false :: false :: false :: false :: false :: false :: false :: false :: false :: false :: false :: false :: false :: false :: false :: false :: false :: true :: true :: false :: false :: false :: false :: false :: false :: false :: false :: false :: false :: false :: false :: false :: false :: false :: []) }),
  (10, { mode := 1, exp := false, thaw := [], live := ([]) }),
  (11, { mode := 1, exp := false, thaw := [], live := ([]) }),
  (12, { mode := 1, exp := false, thaw := [], live := ([]) }),
  (13, { mode := 1, exp := false, thaw := [], live := ([]) }),
  (14, { mode := 1, exp := false, thaw := [], live := ([]) }),
  (15, { mode := 1, exp := false, thaw := [], live := ([]) }),
  (16, { mode := 1, exp := false, thaw := [], live := ([]) }),
  (17, { mode := 1, exp := false, thaw := [], live := ([]) }),
  (18, { mode := 1, exp := false, thaw := [], live := ([]) }),
  (19, { mode := 2, exp := false, thaw := [0, 0, 0, 2], live := (true :: false :: true :: true :: false :: true :: false :: false :: false :: false :: false :: false :: false :: false :: false :: false :: false :: []) }),
  (20, { mode := 1, exp := false, thaw := [], live := ([]) }),
  (21, { mode := 1, exp := false, thaw := [], live := (true :: false :: true :: true :: false :: false :: false :: false :: false :: false :: false :: false :: false :: false :: false :: false :: false :: false :: false :: false :: false :: false :: false :: []) }),
  (22, { mode := 1, exp := false, thaw := [], live := ([]) }),
  (23, { mode := 1, exp := false, thaw := [], live := ([]) }),
  (24, { mode := 1, exp := false, thaw := [], live := ([]) }),
  (25, { mode := 2, exp := true, thaw := [], live := ([]) }),
  (26, { mode := 0, exp := false, thaw := [], live := ([]) }),
  (27, { mode := 0, exp := false, thaw := [], live := (true :: false :: false :: false :: false :: false :: true :: true :: true :: true :: false :: false :: false :: false :: false :: false :: false :: false :: false :: false :: false :: false :: false :: false :: false :: false :: false :: false :: false :: false :: false :: false :: false :: false :: false :: false :: []) }),
  (28, { mode := 0, exp := false, thaw := [], live := ([]) }),
  (29, { mode := 0, exp := false, thaw := [], live := ([]) }),
  (30, { mode := 1, exp := false, thaw := [], live := (true :: true :: false :: false :: true :: false :: false :: false :: false :: false :: false :: false :: false :: false :: false :: true :: true :: false :: false :: false :: false :: false :: false :: false :: false :: false :: []) }),
  (31, { mode := 1, exp := false, thaw := [], live := ([]) }),
  (32, { mode := 0, exp := false, thaw := [], live := ([]) }),
  (33, { mode := 0, exp := false, thaw := [], live := ([]) }),
  (34, { mode := 1, exp := false, thaw := [], live := (true :: true :: false :: false :: true :: true :: false :: false :: false :: false :: false :: false :: false :: false :: false :: false :: false :: false :: false :: false :: []) }),
  (35, { mode := 0, exp := false, thaw := [], live := ([]) }),
  (36, { mode := 2, exp := false, thaw := [], live := (true :: false :: true :: true :: true :: false :: false :: false :: false :: false :: false :: false :: false :: false :: false :: false :: false :: false :: []) }),
  (37, { mode := 1, exp := false, thaw := [], live := ([]) })]

noncomputable def eqTypes : List (TypeId × Nat) := []
noncomputable def prims : List (Nat × (List A → H → Option (A × H))) := []

noncomputable def env : Env := { P := Try.prog, hint := fun f => (hints.lookup f).getD {}, eqs := eqTypes, prim := fun f => prims.lookup f }

/-! FnExactSwapAlphabet -/
noncomputable def S_FnExactSwapAlphabet : SC := slimF Try.f3
noncomputable def lp_FnExactSwapAlphabet : Nat → Code := lpOf Try.f3
theorem fn_FnExactSwapAlphabet {L n : Nat} {args : List A} {h : H} : evCall env L (n + 1) 3 args h = kCode env (evCall env L n) L h.length [] ([]) lp_FnExactSwapAlphabet S_FnExactSwapAlphabet (args ++ List.replicate (Try.f3.ntmps - args.length) (.d .undef)) h (kFin env.P h.length false [.tmp 6]) :=
  fn_eq rfl Try.func3 rfl (by rfl) (by kernel_rfl)

/-! FnExactSwapWord -/
noncomputable def S_FnExactSwapWord : SC := slimF Try.f4
noncomputable def lp_FnExactSwapWord : Nat → Code := lpOf Try.f4
theorem fn_FnExactSwapWord {L n : Nat} {args : List A} {h : H} : evCall env L (n + 1) 4 args h = kCode env (evCall env L n) L h.length [] ([]) lp_FnExactSwapWord S_FnExactSwapWord (args ++ List.replicate (Try.f4.ntmps - args.length) (.d .undef)) h (kFin env.P h.length false [.tmp 6]) :=
  fn_eq rfl Try.func4 rfl (by rfl) (by kernel_rfl)

/-! FnSwapWord -/
noncomputable def S_FnSwapWord : SC := slimF Try.f5
noncomputable def lp_FnSwapWord : Nat → Code := lpOf Try.f5
theorem fn_FnSwapWord {L n : Nat} {args : List A} {h : H} : evCall env L (n + 1) 5 args h = kCode env (evCall env L n) L h.length [] ([]) lp_FnSwapWord S_FnSwapWord (args ++ List.replicate (Try.f5.ntmps - args.length) (.d .undef)) h (kFin env.P h.length false [.tmp 2]) :=
  fn_eq rfl Try.func5 rfl (by rfl) (by kernel_rfl)

/-! s_SwapAlphabet -/
noncomputable def S_s_SwapAlphabet : SC := slimF Try.f6
noncomputable def lp_s_SwapAlphabet : Nat → Code := lpOf Try.f6
theorem fn_s_SwapAlphabet {L n : Nat} {args : List A} {h : H} : evCall env L (n + 1) 6 args h = kCode env (evCall env L n) L h.length [] (true :: true :: true :: false :: false :: false :: true :: true :: true :: false :: false :: false :: false :: false :: false :: false :: false :: false :: false :: false :: false :: false :: false :: false :: false :: false :: false :: false :: false :: false :: false :: false :: false :: false :: false :: false :: false :: []) lp_s_SwapAlphabet S_s_SwapAlphabet (args ++ List.replicate (Try.f6.ntmps - args.length) (.d .undef)) h (kFin env.P h.length false [.tmp 6]) :=
  fn_eq rfl Try.func6 rfl (by rfl) (by kernel_rfl)
noncomputable def S_s_SwapAlphabet_0 : SC := slimL Try.f6 0
theorem step_s_SwapAlphabet_0 {R : Type} {call : CallF} {L nf n : Nat} {thaw : List Nat} {live m : List Bool} {s : List A} {h : H} {k : Exit → List A → H → Option R} : kLoop env call L nf thaw live (lp_s_SwapAlphabet 0) m (n + 1) s h k = kCode env call L nf thaw live lp_s_SwapAlphabet S_s_SwapAlphabet_0 s h (kNext env call L nf thaw live (lp_s_SwapAlphabet 0) m n k) :=
  kLoop_step (by kernel_rfl) (by rfl)

/-! i_SwapAlphabet -/
noncomputable def S_i_SwapAlphabet : SC := slimF Try.f7
noncomputable def lp_i_SwapAlphabet : Nat → Code := lpOf Try.f7
theorem fn_i_SwapAlphabet {L n : Nat} {args : List A} {h : H} : evCall env L (n + 1) 7 args h = kCode env (evCall env L n) L h.length [] (false :: true :: true :: false :: false :: false :: true :: true :: false :: false :: false :: false :: false :: false :: false :: false :: false :: false :: false :: false :: false :: false :: false :: false :: true :: true :: true :: false :: false :: false :: false :: false :: false :: false :: false :: false :: false :: false :: false :: []) lp_i_SwapAlphabet S_i_SwapAlphabet (args ++ List.replicate (Try.f7.ntmps - args.length) (.d .undef)) h (kFin env.P h.length false [.tmp 6]) :=
  fn_eq rfl Try.func7 rfl (by rfl) (by kernel_rfl)
noncomputable def S_i_SwapAlphabet_0 : SC := slimL Try.f7 0
theorem step_i_SwapAlphabet_0 {R : Type} {call : CallF} {L nf n : Nat} {thaw : List Nat} {live m : List Bool} {s : List A} {h : H} {k : Exit → List A → H → Option R} : kLoop env call L nf thaw live (lp_i_SwapAlphabet 0) m (n + 1) s h k = kCode env call L nf thaw live lp_i_SwapAlphabet S_i_SwapAlphabet_0 s h (kNext env call L nf thaw live (lp_i_SwapAlphabet 0) m n k) :=
  kLoop_step (by kernel_rfl) (by rfl)

/-! s_SwapWord -/
noncomputable def S_s_SwapWord : SC := slimF Try.f8
noncomputable def lp_s_SwapWord : Nat → Code := lpOf Try.f8
theorem fn_s_SwapWord {L n : Nat} {args : List A} {h : H} : evCall env L (n + 1) 8 args h = kCode env (evCall env L n) L h.length [] (true :: true :: true :: false :: false :: false :: true :: true :: true :: false :: false :: false :: false :: false :: false :: false :: false :: false :: false :: false :: false :: false :: false :: false :: false :: false :: false :: false :: false :: false :: false :: false :: false :: false :: false :: false :: false :: false :: false :: false :: false :: false :: []) lp_s_SwapWord S_s_SwapWord (args ++ List.replicate (Try.f8.ntmps - args.length) (.d .undef)) h (kFin env.P h.length false [.tmp 6]) :=
  fn_eq rfl Try.func8 rfl (by rfl) (by kernel_rfl)
noncomputable def S_s_SwapWord_0 : SC := slimL Try.f8 0
theorem step_s_SwapWord_0 {R : Type} {call : CallF} {L nf n : Nat} {thaw : List Nat} {live m : List Bool} {s : List A} {h : H} {k : Exit → List A → H → Option R} : kLoop env call L nf thaw live (lp_s_SwapWord 0) m (n + 1) s h k = kCode env call L nf thaw live lp_s_SwapWord S_s_SwapWord_0 s h (kNext env call L nf thaw live (lp_s_SwapWord 0) m n k) :=
  kLoop_step (by kernel_rfl) (by rfl)

/-! i_SwapWord -/
noncomputable def S_i_SwapWord : SC := slimF Try.f9
noncomputable def lp_i_SwapWord : Nat → Code := lpOf Try.f9
theorem fn_i_SwapWord {L n : Nat} {args : List A} {h : H} : evCall env L (n + 1) 9 args h = kCode env (evCall env L n) L h.length [] (true :: true :: true :: false :: false :: false :: true :: true :: false :: false :: false :: false :: false :: false :: false :: false :: false :: false :: false :: false :: false :: false :: false :: false :: false :: false :: true :: true :: false :: false :: false :: false :: false :: false :: false :: false :: false :: false :: false :: false :: false :: false :: false :: []) lp_i_SwapWord S_i_SwapWord (args ++ List.replicate (Try.f9.ntmps - args.length) (.d .undef)) h (kFin env.P h.length false [.tmp 6]) :=
  fn_eq rfl Try.func9 rfl (by rfl) (by kernel_rfl)
noncomputable def S_i_SwapWord_0 : SC := slimL Try.f9 0
theorem step_i_SwapWord_0 {R : Type} {call : CallF} {L nf n : Nat} {thaw : List Nat} {live m : List Bool} {s : List A} {h : H} {k : Exit → List A → H → Option R} : kLoop env call L nf thaw live (lp_i_SwapWord 0) m (n + 1) s h k = kCode env call L nf thaw live lp_i_SwapWord S_i_SwapWord_0 s h (kNext env call L nf thaw live (lp_i_SwapWord 0) m n k) :=
  kLoop_step (by kernel_rfl) (by rfl)

/-! s_DrawSwapWord -/
noncomputable def S_s_DrawSwapWord : SC := slimF Try.f10
noncomputable def lp_s_DrawSwapWord : Nat → Code := lpOf Try.f10
theorem fn_s_DrawSwapWord {L n : Nat} {args : List A} {h : H} : evCall env L (n + 1) 10 args h = kCode env (evCall env L n) L h.length [] ([]) lp_s_DrawSwapWord S_s_DrawSwapWord (args ++ List.replicate (Try.f10.ntmps - args.length) (.d .undef)) h (kFin env.P h.length false [.tmp 2, .tmp 3, .tmp 4]) :=
  fn_eq rfl Try.func10 rfl (by rfl) (by kernel_rfl)

/-! i_WordValid -/
noncomputable def S_i_WordValid : SC := slimF Try.f11
noncomputable def lp_i_WordValid : Nat → Code := lpOf Try.f11
theorem fn_i_WordValid {L n : Nat} {args : List A} {h : H} : evCall env L (n + 1) 11 args h = kCode env (evCall env L n) L h.length [] ([]) lp_i_WordValid S_i_WordValid (args ++ List.replicate (Try.f11.ntmps - args.length) (.d .undef)) h (kFin env.P h.length false [.tmp 2]) :=
  fn_eq rfl Try.func11 rfl (by rfl) (by kernel_rfl)

/-! s_l1Alphabet -/
noncomputable def S_s_l1Alphabet : SC := slimF Try.f12
noncomputable def lp_s_l1Alphabet : Nat → Code := lpOf Try.f12
theorem fn_s_l1Alphabet {L n : Nat} {args : List A} {h : H} : evCall env L (n + 1) 12 args h = kCode env (evCall env L n) L h.length [] ([]) lp_s_l1Alphabet S_s_l1Alphabet (args ++ List.replicate (Try.f12.ntmps - args.length) (.d .undef)) h (kFin env.P h.length false [.tmp 2]) :=
  fn_eq rfl Try.func12 rfl (by rfl) (by kernel_rfl)

/-! s_l17Letter -/
noncomputable def S_s_l17Letter : SC := slimF Try.f13
noncomputable def lp_s_l17Letter : Nat → Code := lpOf Try.f13
theorem fn_s_l17Letter {L n : Nat} {args : List A} {h : H} : evCall env L (n + 1) 13 args h = kCode env (evCall env L n) L h.length [] ([]) lp_s_l17Letter S_s_l17Letter (args ++ List.replicate (Try.f13.ntmps - args.length) (.d .undef)) h (kFin env.P h.length false [.tmp 2]) :=
  fn_eq rfl Try.func13 rfl (by rfl) (by kernel_rfl)

/-! s_l1Has -/
noncomputable def S_s_l1Has : SC := slimF Try.f14
noncomputable def lp_s_l1Has : Nat → Code := lpOf Try.f14
theorem fn_s_l1Has {L n : Nat} {args : List A} {h : H} : evCall env L (n + 1) 14 args h = kCode env (evCall env L n) L h.length [] ([]) lp_s_l1Has S_s_l1Has (args ++ List.replicate (Try.f14.ntmps - args.length) (.d .undef)) h (kFin env.P h.length false [.tmp 4]) :=
  fn_eq rfl Try.func14 rfl (by rfl) (by kernel_rfl)

/-! s_l1Bit -/
noncomputable def S_s_l1Bit : SC := slimF Try.f15
noncomputable def lp_s_l1Bit : Nat → Code := lpOf Try.f15
theorem fn_s_l1Bit {L n : Nat} {args : List A} {h : H} : evCall env L (n + 1) 15 args h = kCode env (evCall env L n) L h.length [] ([]) lp_s_l1Bit S_s_l1Bit (args ++ List.replicate (Try.f15.ntmps - args.length) (.d .undef)) h (kFin env.P h.length false [.tmp 2]) :=
  fn_eq rfl Try.func15 rfl (by rfl) (by kernel_rfl)

/-! s_l17Swap -/
noncomputable def S_s_l17Swap : SC := slimF Try.f16
noncomputable def lp_s_l17Swap : Nat → Code := lpOf Try.f16
theorem fn_s_l17Swap {L n : Nat} {args : List A} {h : H} : evCall env L (n + 1) 16 args h = kCode env (evCall env L n) L h.length [] ([]) lp_s_l17Swap S_s_l17Swap (args ++ List.replicate (Try.f16.ntmps - args.length) (.d .undef)) h (kFin env.P h.length false [.tmp 6]) :=
  fn_eq rfl Try.func16 rfl (by rfl) (by kernel_rfl)

/-! i_isAlphabet -/
noncomputable def S_i_isAlphabet : SC := slimF Try.f17
noncomputable def lp_i_isAlphabet : Nat → Code := lpOf Try.f17
theorem fn_i_isAlphabet {L n : Nat} {args : List A} {h : H} : evCall env L (n + 1) 17 args h = kCode env (evCall env L n) L h.length [] ([]) lp_i_isAlphabet S_i_isAlphabet (args ++ List.replicate (Try.f17.ntmps - args.length) (.d .undef)) h (kFin env.P h.length false [.tmp 2]) :=
  fn_eq rfl Try.func17 rfl (by rfl) (by kernel_rfl)

/-! i_isLetter -/
noncomputable def S_i_isLetter : SC := slimF Try.f18
noncomputable def lp_i_isLetter : Nat → Code := lpOf Try.f18
theorem fn_i_isLetter {L n : Nat} {args : List A} {h : H} : evCall env L (n + 1) 18 args h = kCode env (evCall env L n) L h.length [] ([]) lp_i_isLetter S_i_isLetter (args ++ List.replicate (Try.f18.ntmps - args.length) (.d .undef)) h (kFin env.P h.length false [.tmp 2]) :=
  fn_eq rfl Try.func18 rfl (by rfl) (by kernel_rfl)

/-! i_lettersOf -/
noncomputable def S_i_lettersOf : SC := slimF Try.f19
noncomputable def lp_i_lettersOf : Nat → Code := lpOf Try.f19
theorem fn_i_lettersOf {L n : Nat} {args : List A} {h : H} : evCall env L (n + 1) 19 args h = kCode env (evCall env L n) L h.length [0, 0, 0, 2] (true :: false :: true :: true :: false :: true :: false :: false :: false :: false :: false :: false :: false :: false :: false :: false :: false :: []) lp_i_lettersOf S_i_lettersOf (args ++ List.replicate (Try.f19.ntmps - args.length) (.d .undef)) h (kFin env.P h.length false [.tmp 2]) :=
  fn_eq rfl Try.func19 rfl (by rfl) (by kernel_rfl)
noncomputable def S_i_lettersOf_0 : SC := slimL Try.f19 0
theorem step_i_lettersOf_0 {R : Type} {call : CallF} {L nf n : Nat} {thaw : List Nat} {live m : List Bool} {s : List A} {h : H} {k : Exit → List A → H → Option R} : kLoop env call L nf thaw live (lp_i_lettersOf 0) m (n + 1) s h k = kCode env call L nf thaw live lp_i_lettersOf S_i_lettersOf_0 s h (kNext env call L nf thaw live (lp_i_lettersOf 0) m n k) :=
  kLoop_step (by kernel_rfl) (by rfl)

/-! i_swapped -/
noncomputable def S_i_swapped : SC := slimF Try.f20
noncomputable def lp_i_swapped : Nat → Code := lpOf Try.f20
theorem fn_i_swapped {L n : Nat} {args : List A} {h : H} : evCall env L (n + 1) 20 args h = kCode env (evCall env L n) L h.length [] ([]) lp_i_swapped S_i_swapped (args ++ List.replicate (Try.f20.ntmps - args.length) (.d .undef)) h (kFin env.P h.length false [.tmp 6]) :=
  fn_eq rfl Try.func20 rfl (by rfl) (by kernel_rfl)

/-! s_WordValid -/
noncomputable def S_s_WordValid : SC := slimF Try.f21
noncomputable def lp_s_WordValid : Nat → Code := lpOf Try.f21
theorem fn_s_WordValid {L n : Nat} {args : List A} {h : H} : evCall env L (n + 1) 21 args h = kCode env (evCall env L n) L h.length [] (true :: false :: true :: true :: false :: false :: false :: false :: false :: false :: false :: false :: false :: false :: false :: false :: false :: false :: false :: false :: false :: false :: false :: []) lp_s_WordValid S_s_WordValid (args ++ List.replicate (Try.f21.ntmps - args.length) (.d .undef)) h (kFin env.P h.length false [.tmp 2]) :=
  fn_eq rfl Try.func21 rfl (by rfl) (by kernel_rfl)
noncomputable def S_s_WordValid_0 : SC := slimL Try.f21 0
theorem step_s_WordValid_0 {R : Type} {call : CallF} {L nf n : Nat} {thaw : List Nat} {live m : List Bool} {s : List A} {h : H} {k : Exit → List A → H → Option R} : kLoop env call L nf thaw live (lp_s_WordValid 0) m (n + 1) s h k = kCode env call L nf thaw live lp_s_WordValid S_s_WordValid_0 s h (kNext env call L nf thaw live (lp_s_WordValid 0) m n k) :=
  kLoop_step (by kernel_rfl) (by rfl)

/-! s_l1At -/
noncomputable def S_s_l1At : SC := slimF Try.f22
noncomputable def lp_s_l1At : Nat → Code := lpOf Try.f22
theorem fn_s_l1At {L n : Nat} {args : List A} {h : H} : evCall env L (n + 1) 22 args h = kCode env (evCall env L n) L h.length [] ([]) lp_s_l1At S_s_l1At (args ++ List.replicate (Try.f22.ntmps - args.length) (.d .undef)) h (kFin env.P h.length false [.tmp 4]) :=
  fn_eq rfl Try.func22 rfl (by rfl) (by kernel_rfl)

/-! i_letterByte -/
noncomputable def S_i_letterByte : SC := slimF Try.f23
noncomputable def lp_i_letterByte : Nat → Code := lpOf Try.f23
theorem fn_i_letterByte {L n : Nat} {args : List A} {h : H} : evCall env L (n + 1) 23 args h = kCode env (evCall env L n) L h.length [] ([]) lp_i_letterByte S_i_letterByte (args ++ List.replicate (Try.f23.ntmps - args.length) (.d .undef)) h (kFin env.P h.length false [.tmp 2]) :=
  fn_eq rfl Try.func23 rfl (by rfl) (by kernel_rfl)

/-! i_letterAt -/
noncomputable def S_i_letterAt : SC := slimF Try.f24
noncomputable def lp_i_letterAt : Nat → Code := lpOf Try.f24
theorem fn_i_letterAt {L n : Nat} {args : List A} {h : H} : evCall env L (n + 1) 24 args h = kCode env (evCall env L n) L h.length [] ([]) lp_i_letterAt S_i_letterAt (args ++ List.replicate (Try.f24.ntmps - args.length) (.d .undef)) h (kFin env.P h.length false [.tmp 4]) :=
  fn_eq rfl Try.func24 rfl (by rfl) (by kernel_rfl)

/-! s_l19Open -/
noncomputable def S_s_l19Open : SC := slimF Try.f25
noncomputable def lp_s_l19Open : Nat → Code := lpOf Try.f25
theorem fn_s_l19Open {L n : Nat} {args : List A} {h : H} : evCall env L (n + 1) 25 args h = kCode env (evCall env L n) L h.length [] ([]) lp_s_l19Open S_s_l19Open (args ++ List.replicate (Try.f25.ntmps - args.length) (.d .undef)) h (kFin env.P h.length true [.tmp 2]) :=
  fn_eq rfl Try.func25 rfl (by rfl) (by kernel_rfl)

/-! s_l1Bad -/
noncomputable def S_s_l1Bad : SC := slimF Try.f26
noncomputable def lp_s_l1Bad : Nat → Code := lpOf Try.f26
theorem fn_s_l1Bad {L n : Nat} {args : List A} {h : H} : evCall env L (n + 1) 26 args h = kCode env (evCall env L n) L h.length [] ([]) lp_s_l1Bad S_s_l1Bad (args ++ List.replicate (Try.f26.ntmps - args.length) (.d .undef)) h (kFin env.P h.length false [.tmp 4]) :=
  fn_eq rfl Try.func26 rfl (by rfl) (by kernel_rfl)

/-! s_l1Word -/
noncomputable def S_s_l1Word : SC := slimF Try.f27
noncomputable def lp_s_l1Word : Nat → Code := lpOf Try.f27
theorem fn_s_l1Word {L n : Nat} {args : List A} {h : H} : evCall env L (n + 1) 27 args h = kCode env (evCall env L n) L h.length [] (true :: false :: false :: false :: false :: false :: true :: true :: true :: true :: false :: false :: false :: false :: false :: false :: false :: false :: false :: false :: false :: false :: false :: false :: false :: false :: false :: false :: false :: false :: false :: false :: false :: false :: false :: false :: []) lp_s_l1Word S_s_l1Word (args ++ List.replicate (Try.f27.ntmps - args.length) (.d .undef)) h (kFin env.P h.length false [.tmp 6]) :=
  fn_eq rfl Try.func27 rfl (by rfl) (by kernel_rfl)
noncomputable def S_s_l1Word_0 : SC := slimL Try.f27 0
theorem step_s_l1Word_0 {R : Type} {call : CallF} {L nf n : Nat} {thaw : List Nat} {live m : List Bool} {s : List A} {h : H} {k : Exit → List A → H → Option R} : kLoop env call L nf thaw live (lp_s_l1Word 0) m (n + 1) s h k = kCode env call L nf thaw live lp_s_l1Word S_s_l1Word_0 s h (kNext env call L nf thaw live (lp_s_l1Word 0) m n k) :=
  kLoop_step (by kernel_rfl) (by rfl)

/-! s_l1Some -/
noncomputable def S_s_l1Some : SC := slimF Try.f28
noncomputable def lp_s_l1Some : Nat → Code := lpOf Try.f28
theorem fn_s_l1Some {L n : Nat} {args : List A} {h : H} : evCall env L (n + 1) 28 args h = kCode env (evCall env L n) L h.length [] ([]) lp_s_l1Some S_s_l1Some (args ++ List.replicate (Try.f28.ntmps - args.length) (.d .undef)) h (kFin env.P h.length false [.tmp 2]) :=
  fn_eq rfl Try.func28 rfl (by rfl) (by kernel_rfl)

/-! s_l17Two -/
noncomputable def S_s_l17Two : SC := slimF Try.f29
noncomputable def lp_s_l17Two : Nat → Code := lpOf Try.f29
theorem fn_s_l17Two {L n : Nat} {args : List A} {h : H} : evCall env L (n + 1) 29 args h = kCode env (evCall env L n) L h.length [] ([]) lp_s_l17Two S_s_l17Two (args ++ List.replicate (Try.f29.ntmps - args.length) (.d .undef)) h (kFin env.P h.length false [.tmp 2, .tmp 3]) :=
  fn_eq rfl Try.func29 rfl (by rfl) (by kernel_rfl)

/-! i_WordWithin -/
noncomputable def S_i_WordWithin : SC := slimF Try.f30
noncomputable def lp_i_WordWithin : Nat → Code := lpOf Try.f30
theorem fn_i_WordWithin {L n : Nat} {args : List A} {h : H} : evCall env L (n + 1) 30 args h = kCode env (evCall env L n) L h.length [] (true :: true :: false :: false :: true :: false :: false :: false :: false :: false :: false :: false :: false :: false :: false :: true :: true :: false :: false :: false :: false :: false :: false :: false :: false :: false :: []) lp_i_WordWithin S_i_WordWithin (args ++ List.replicate (Try.f30.ntmps - args.length) (.d .undef)) h (kFin env.P h.length false [.tmp 4]) :=
  fn_eq rfl Try.func30 rfl (by rfl) (by kernel_rfl)
noncomputable def S_i_WordWithin_0 : SC := slimL Try.f30 0
theorem step_i_WordWithin_0 {R : Type} {call : CallF} {L nf n : Nat} {thaw : List Nat} {live m : List Bool} {s : List A} {h : H} {k : Exit → List A → H → Option R} : kLoop env call L nf thaw live (lp_i_WordWithin 0) m (n + 1) s h k = kCode env call L nf thaw live lp_i_WordWithin S_i_WordWithin_0 s h (kNext env call L nf thaw live (lp_i_WordWithin 0) m n k) :=
  kLoop_step (by kernel_rfl) (by rfl)

/-! i_has -/
noncomputable def S_i_has : SC := slimF Try.f31
noncomputable def lp_i_has : Nat → Code := lpOf Try.f31
theorem fn_i_has {L n : Nat} {args : List A} {h : H} : evCall env L (n + 1) 31 args h = kCode env (evCall env L n) L h.length [] ([]) lp_i_has S_i_has (args ++ List.replicate (Try.f31.ntmps - args.length) (.d .undef)) h (kFin env.P h.length false [.tmp 4]) :=
  fn_eq rfl Try.func31 rfl (by rfl) (by kernel_rfl)

/-! s_l19Rd_pick -/
noncomputable def S_s_l19Rd_pick : SC := slimF Try.f32
noncomputable def lp_s_l19Rd_pick : Nat → Code := lpOf Try.f32
theorem fn_s_l19Rd_pick {L n : Nat} {args : List A} {h : H} : evCall env L (n + 1) 32 args h = kCode env (evCall env L n) L h.length [] ([]) lp_s_l19Rd_pick S_s_l19Rd_pick (args ++ List.replicate (Try.f32.ntmps - args.length) (.d .undef)) h (kFin env.P h.length false [.tmp 4]) :=
  fn_eq rfl Try.func32 rfl (by rfl) (by kernel_rfl)

/-! s_l19Rd_of -/
noncomputable def S_s_l19Rd_of : SC := slimF Try.f33
noncomputable def lp_s_l19Rd_of : Nat → Code := lpOf Try.f33
theorem fn_s_l19Rd_of {L n : Nat} {args : List A} {h : H} : evCall env L (n + 1) 33 args h = kCode env (evCall env L n) L h.length [] ([]) lp_s_l19Rd_of S_s_l19Rd_of (args ++ List.replicate (Try.f33.ntmps - args.length) (.d .undef)) h (kFin env.P h.length false [.tmp 4]) :=
  fn_eq rfl Try.func33 rfl (by rfl) (by kernel_rfl)

/-! s_l19Many -/
noncomputable def S_s_l19Many : SC := slimF Try.f34
noncomputable def lp_s_l19Many : Nat → Code := lpOf Try.f34
theorem fn_s_l19Many {L n : Nat} {args : List A} {h : H} : evCall env L (n + 1) 34 args h = kCode env (evCall env L n) L h.length [] (true :: true :: false :: false :: true :: true :: false :: false :: false :: false :: false :: false :: false :: false :: false :: false :: false :: false :: false :: false :: []) lp_s_l19Many S_s_l19Many (args ++ List.replicate (Try.f34.ntmps - args.length) (.d .undef)) h (kFin env.P h.length false [.tmp 4]) :=
  fn_eq rfl Try.func34 rfl (by rfl) (by kernel_rfl)
noncomputable def S_s_l19Many_0 : SC := slimL Try.f34 0
theorem step_s_l19Many_0 {R : Type} {call : CallF} {L nf n : Nat} {thaw : List Nat} {live m : List Bool} {s : List A} {h : H} {k : Exit → List A → H → Option R} : kLoop env call L nf thaw live (lp_s_l19Many 0) m (n + 1) s h k = kCode env call L nf thaw live lp_s_l19Many S_s_l19Many_0 s h (kNext env call L nf thaw live (lp_s_l19Many 0) m n k) :=
  kLoop_step (by kernel_rfl) (by rfl)

/-! s_l19Rd_num -/
noncomputable def S_s_l19Rd_num : SC := slimF Try.f35
noncomputable def lp_s_l19Rd_num : Nat → Code := lpOf Try.f35
theorem fn_s_l19Rd_num {L n : Nat} {args : List A} {h : H} : evCall env L (n + 1) 35 args h = kCode env (evCall env L n) L h.length [] ([]) lp_s_l19Rd_num S_s_l19Rd_num (args ++ List.replicate (Try.f35.ntmps - args.length) (.d .undef)) h (kFin env.P h.length false [.tmp 4]) :=
  fn_eq rfl Try.func35 rfl (by rfl) (by kernel_rfl)

/-! s_l1Letters -/
noncomputable def S_s_l1Letters : SC := slimF Try.f36
noncomputable def lp_s_l1Letters : Nat → Code := lpOf Try.f36
theorem fn_s_l1Letters {L n : Nat} {args : List A} {h : H} : evCall env L (n + 1) 36 args h = kCode env (evCall env L n) L h.length [] (true :: false :: true :: true :: true :: false :: false :: false :: false :: false :: false :: false :: false :: false :: false :: false :: false :: false :: []) lp_s_l1Letters S_s_l1Letters (args ++ List.replicate (Try.f36.ntmps - args.length) (.d .undef)) h (kFin env.P h.length false [.tmp 2]) :=
  fn_eq rfl Try.func36 rfl (by rfl) (by kernel_rfl)
noncomputable def S_s_l1Letters_0 : SC := slimL Try.f36 0
theorem step_s_l1Letters_0 {R : Type} {call : CallF} {L nf n : Nat} {thaw : List Nat} {live m : List Bool} {s : List A} {h : H} {k : Exit → List A → H → Option R} : kLoop env call L nf thaw live (lp_s_l1Letters 0) m (n + 1) s h k = kCode env call L nf thaw live lp_s_l1Letters S_s_l1Letters_0 s h (kNext env call L nf thaw live (lp_s_l1Letters 0) m n k) :=
  kLoop_step (by kernel_rfl) (by rfl)

/-! s_l1Text -/
noncomputable def S_s_l1Text : SC := slimF Try.f37
noncomputable def lp_s_l1Text : Nat → Code := lpOf Try.f37
theorem fn_s_l1Text {L n : Nat} {args : List A} {h : H} : evCall env L (n + 1) 37 args h = kCode env (evCall env L n) L h.length [] ([]) lp_s_l1Text S_s_l1Text (args ++ List.replicate (Try.f37.ntmps - args.length) (.d .undef)) h (kFin env.P h.length false [.tmp 2]) :=
  fn_eq rfl Try.func37 rfl (by rfl) (by kernel_rfl)

end Ev
end Go.Proofs.Ytaapbkmfcmaphaa
