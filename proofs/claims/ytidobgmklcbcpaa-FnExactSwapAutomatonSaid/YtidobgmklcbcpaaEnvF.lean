/-
  Each function's code as an equation. Written by a program.
-/
import Derived.Test.YtidobgmklcbcpaaEnv
set_option maxRecDepth 100000
namespace Go.Proofs.Ytidobgmklcbcpaa
namespace Ev

/-! FnExactSwapAutomaton -/
noncomputable def S_FnExactSwapAutomaton : SC := slimF Try.f8
noncomputable def lp_FnExactSwapAutomaton : Nat → Code := lpOf Try.f8
theorem dr_FnExactSwapAutomaton : drawsOK (codeOf Try.f8) = true := by kernel_rfl
theorem fn_FnExactSwapAutomaton {L n : Nat} {args : List A} {h : H} : evCall env L (n + 1) 8 args h = kCode env (evCall env L n) L h.length [] ([]) lp_FnExactSwapAutomaton S_FnExactSwapAutomaton (args ++ List.replicate (Try.f8.ntmps - args.length) (.d .undef)) h (kFin env.P h.length false [.tmp 6]) :=
  fn_eq2 (mode := 1) (by kernel_rfl) Try.func8 (by kernel_rfl) (by kernel_rfl) dr_FnExactSwapAutomaton (by kernel_rfl) (by kernel_rfl)

/-! i_SwapAlphabet -/
noncomputable def S_i_SwapAlphabet : SC := slimF Try.f19
noncomputable def lp_i_SwapAlphabet : Nat → Code := lpOf Try.f19
theorem dr_i_SwapAlphabet : drawsOK (codeOf Try.f19) = true := by kernel_rfl
theorem fn_i_SwapAlphabet {L n : Nat} {args : List A} {h : H} : evCall env L (n + 1) 19 args h = kCode env (evCall env L n) L h.length [] (false :: true :: true :: false :: false :: false :: true :: true :: false :: false :: false :: false :: false :: false :: false :: false :: false :: false :: false :: false :: false :: false :: false :: false :: true :: true :: true :: false :: false :: false :: false :: false :: false :: false :: false :: false :: false :: false :: false :: []) lp_i_SwapAlphabet S_i_SwapAlphabet (args ++ List.replicate (Try.f19.ntmps - args.length) (.d .undef)) h (kFin env.P h.length false [.tmp 6]) :=
  fn_eq2 (mode := 1) (by kernel_rfl) Try.func19 (by kernel_rfl) (by kernel_rfl) dr_i_SwapAlphabet (by kernel_rfl) (by kernel_rfl)
noncomputable def S_i_SwapAlphabet_0 : SC := slimL Try.f19 0
theorem step_i_SwapAlphabet_0 {R : Type} {call : CallF} {L nf n : Nat} {thaw : List Nat} {live m : List Bool} {s : List A} {h : H} {k : Exit → List A → H → Option R} : kLoop env call L nf thaw live (lp_i_SwapAlphabet 0) m (n + 1) s h k = kCode env call L nf thaw live lp_i_SwapAlphabet S_i_SwapAlphabet_0 s h (kNext env call L nf thaw live (lp_i_SwapAlphabet 0) m n k) :=
  kLoop_step dr_i_SwapAlphabet (by kernel_rfl)

/-! s_SwapAlphabet -/
noncomputable def S_s_SwapAlphabet : SC := slimF Try.f21
noncomputable def lp_s_SwapAlphabet : Nat → Code := lpOf Try.f21
theorem dr_s_SwapAlphabet : drawsOK (codeOf Try.f21) = true := by kernel_rfl
theorem fn_s_SwapAlphabet {L n : Nat} {args : List A} {h : H} : evCall env L (n + 1) 21 args h = kCode env (evCall env L n) L h.length [] (true :: true :: true :: false :: false :: false :: true :: true :: true :: false :: false :: false :: false :: false :: false :: false :: false :: false :: false :: false :: false :: false :: false :: false :: false :: false :: false :: false :: false :: false :: false :: false :: false :: false :: false :: false :: false :: []) lp_s_SwapAlphabet S_s_SwapAlphabet (args ++ List.replicate (Try.f21.ntmps - args.length) (.d .undef)) h (kFin env.P h.length false [.tmp 6]) :=
  fn_eq2 (mode := 1) (by kernel_rfl) Try.func21 (by kernel_rfl) (by kernel_rfl) dr_s_SwapAlphabet (by kernel_rfl) (by kernel_rfl)
noncomputable def S_s_SwapAlphabet_0 : SC := slimL Try.f21 0
theorem step_s_SwapAlphabet_0 {R : Type} {call : CallF} {L nf n : Nat} {thaw : List Nat} {live m : List Bool} {s : List A} {h : H} {k : Exit → List A → H → Option R} : kLoop env call L nf thaw live (lp_s_SwapAlphabet 0) m (n + 1) s h k = kCode env call L nf thaw live lp_s_SwapAlphabet S_s_SwapAlphabet_0 s h (kNext env call L nf thaw live (lp_s_SwapAlphabet 0) m n k) :=
  kLoop_step dr_s_SwapAlphabet (by kernel_rfl)

/-! szAutomaton -/
noncomputable def S_szAutomaton : SC := slimF Try.f32
noncomputable def lp_szAutomaton : Nat → Code := lpOf Try.f32
theorem dr_szAutomaton : drawsOK (codeOf Try.f32) = true := by kernel_rfl
theorem fn_szAutomaton {L n : Nat} {args : List A} {h : H} : evCall env L (n + 1) 32 args h = kCode env (evCall env L n) L h.length [] ([]) lp_szAutomaton S_szAutomaton (args ++ List.replicate (Try.f32.ntmps - args.length) (.d .undef)) h (kFin env.P h.length false [.tmp 4]) :=
  fn_eq2 (mode := 1) (by kernel_rfl) Try.func32 (by kernel_rfl) (by kernel_rfl) dr_szAutomaton (by kernel_rfl) (by kernel_rfl)

/-! s_SwapAutomaton -/
noncomputable def S_s_SwapAutomaton : SC := slimF Try.f33
noncomputable def lp_s_SwapAutomaton : Nat → Code := lpOf Try.f33
theorem dr_s_SwapAutomaton : drawsOK (codeOf Try.f33) = true := by kernel_rfl
theorem fn_s_SwapAutomaton {L n : Nat} {args : List A} {h : H} : evCall env L (n + 1) 33 args h = kCode env (evCall env L n) L h.length [] (false :: true :: true :: true :: false :: false :: true :: true :: true :: true :: true :: true :: true :: false :: false :: false :: false :: false :: false :: false :: false :: false :: false :: false :: false :: false :: false :: false :: false :: false :: false :: false :: false :: false :: false :: false :: false :: false :: false :: false :: false :: false :: false :: false :: false :: false :: false :: false :: false :: false :: false :: false :: false :: false :: false :: false :: false :: false :: false :: false :: false :: false :: false :: false :: false :: false :: false :: false :: false :: false :: false :: false :: false :: false :: []) lp_s_SwapAutomaton S_s_SwapAutomaton (args ++ List.replicate (Try.f33.ntmps - args.length) (.d .undef)) h (kFin env.P h.length false Try.f33.results.toList) :=
  fn_eq2 (mode := 2) (by kernel_rfl) Try.func33 (by kernel_rfl) (by kernel_rfl) dr_s_SwapAutomaton (by kernel_rfl) (by kernel_rfl)
noncomputable def S_s_SwapAutomaton_0 : SC := slimL Try.f33 0
theorem step_s_SwapAutomaton_0 {R : Type} {call : CallF} {L nf n : Nat} {thaw : List Nat} {live m : List Bool} {s : List A} {h : H} {k : Exit → List A → H → Option R} : kLoop env call L nf thaw live (lp_s_SwapAutomaton 0) m (n + 1) s h k = kCode env call L nf thaw live lp_s_SwapAutomaton S_s_SwapAutomaton_0 s h (kNext env call L nf thaw live (lp_s_SwapAutomaton 0) m n k) :=
  kLoop_step dr_s_SwapAutomaton (by kernel_rfl)
noncomputable def S_s_SwapAutomaton_1 : SC := slimL Try.f33 1
theorem step_s_SwapAutomaton_1 {R : Type} {call : CallF} {L nf n : Nat} {thaw : List Nat} {live m : List Bool} {s : List A} {h : H} {k : Exit → List A → H → Option R} : kLoop env call L nf thaw live (lp_s_SwapAutomaton 1) m (n + 1) s h k = kCode env call L nf thaw live lp_s_SwapAutomaton S_s_SwapAutomaton_1 s h (kNext env call L nf thaw live (lp_s_SwapAutomaton 1) m n k) :=
  kLoop_step dr_s_SwapAutomaton (by kernel_rfl)

/-! toAutomaton -/
noncomputable def S_toAutomaton : SC := slimF Try.f34
noncomputable def lp_toAutomaton : Nat → Code := lpOf Try.f34
theorem dr_toAutomaton : drawsOK (codeOf Try.f34) = true := by kernel_rfl
theorem fn_toAutomaton {L n : Nat} {args : List A} {h : H} : evCall env L (n + 1) 34 args h = kCode env (evCall env L n) L h.length [] ([]) lp_toAutomaton S_toAutomaton (args ++ List.replicate (Try.f34.ntmps - args.length) (.d .undef)) h (kFin env.P h.length true Try.f34.results.toList) :=
  fn_eq2 (mode := 2) (by kernel_rfl) Try.func34 (by kernel_rfl) (by kernel_rfl) dr_toAutomaton (by kernel_rfl) (by kernel_rfl)

/-! i_SwapAutomaton -/
noncomputable def S_i_SwapAutomaton : SC := slimF Try.f35
noncomputable def lp_i_SwapAutomaton : Nat → Code := lpOf Try.f35
theorem dr_i_SwapAutomaton : drawsOK (codeOf Try.f35) = true := by kernel_rfl
theorem fn_i_SwapAutomaton {L n : Nat} {args : List A} {h : H} : evCall env L (n + 1) 35 args h = kCode env (evCall env L n) L h.length [0, 0, 0, 0, 0, 0, 0, 0, 0, 0, 0, 2, 0, 0, 0, 0, 0, 0, 0, 0, 0, 0, 0, 0, 0, 0, 0, 0, 0, 0, 0, 0, 0, 0, 0, 0, 0, 0, 0, 0, 0, 0, 0, 0, 0, 0, 0, 0, 0, 0, 0, 0, 0, 0, 0, 0, 0, 0, 0, 0, 0, 0, 0, 0, 0, 0, 0, 0, 0, 1002] (false :: true :: true :: false :: false :: false :: true :: true :: true :: true :: true :: true :: false :: false :: false :: false :: false :: false :: false :: false :: false :: false :: false :: false :: false :: false :: false :: false :: false :: false :: false :: false :: false :: false :: false :: false :: false :: false :: false :: false :: false :: true :: true :: false :: false :: false :: false :: true :: true :: true :: false :: false :: false :: false :: false :: false :: false :: false :: false :: false :: false :: false :: false :: false :: false :: false :: false :: false :: false :: false :: false :: false :: false :: false :: []) lp_i_SwapAutomaton S_i_SwapAutomaton (args ++ List.replicate (Try.f35.ntmps - args.length) (.d .undef)) h (kFin env.P h.length true Try.f35.results.toList) :=
  fn_eq2 (mode := 3) (by kernel_rfl) Try.func35 (by kernel_rfl) (by kernel_rfl) dr_i_SwapAutomaton (by kernel_rfl) (by kernel_rfl)
noncomputable def S_i_SwapAutomaton_0 : SC := slimL Try.f35 0
theorem step_i_SwapAutomaton_0 {R : Type} {call : CallF} {L nf n : Nat} {thaw : List Nat} {live m : List Bool} {s : List A} {h : H} {k : Exit → List A → H → Option R} : kLoop env call L nf thaw live (lp_i_SwapAutomaton 0) m (n + 1) s h k = kCode env call L nf thaw live lp_i_SwapAutomaton S_i_SwapAutomaton_0 s h (kNext env call L nf thaw live (lp_i_SwapAutomaton 0) m n k) :=
  kLoop_step dr_i_SwapAutomaton (by kernel_rfl)
noncomputable def S_i_SwapAutomaton_1 : SC := slimL Try.f35 1
theorem step_i_SwapAutomaton_1 {R : Type} {call : CallF} {L nf n : Nat} {thaw : List Nat} {live m : List Bool} {s : List A} {h : H} {k : Exit → List A → H → Option R} : kLoop env call L nf thaw live (lp_i_SwapAutomaton 1) m (n + 1) s h k = kCode env call L nf thaw live lp_i_SwapAutomaton S_i_SwapAutomaton_1 s h (kNext env call L nf thaw live (lp_i_SwapAutomaton 1) m n k) :=
  kLoop_step dr_i_SwapAutomaton (by kernel_rfl)

/-! eqAutomaton -/
noncomputable def S_eqAutomaton : SC := slimF Try.f36
noncomputable def lp_eqAutomaton : Nat → Code := lpOf Try.f36
theorem dr_eqAutomaton : drawsOK (codeOf Try.f36) = true := by kernel_rfl
theorem fn_eqAutomaton {L n : Nat} {args : List A} {h : H} : evCall env L (n + 1) 36 args h = kCode env (evCall env L n) L h.length [] ([]) lp_eqAutomaton S_eqAutomaton (args ++ List.replicate (Try.f36.ntmps - args.length) (.d .undef)) h (kFin env.P h.length false [.tmp 4]) :=
  fn_eq2 (mode := 1) (by kernel_rfl) Try.func36 (by kernel_rfl) (by kernel_rfl) dr_eqAutomaton (by kernel_rfl) (by kernel_rfl)

/-! markAutomaton -/
noncomputable def S_markAutomaton : SC := slimF Try.f37
noncomputable def lp_markAutomaton : Nat → Code := lpOf Try.f37
theorem dr_markAutomaton : drawsOK (codeOf Try.f37) = true := by kernel_rfl
theorem fn_markAutomaton {L n : Nat} {args : List A} {h : H} : evCall env L (n + 1) 37 args h = kCode env (evCall env L n) L h.length [] ([]) lp_markAutomaton S_markAutomaton (args ++ List.replicate (Try.f37.ntmps - args.length) (.d .undef)) h (kFin env.P h.length false [.tmp 4]) :=
  fn_eq2 (mode := 0) (by kernel_rfl) Try.func37 (by kernel_rfl) (by kernel_rfl) dr_markAutomaton (by kernel_rfl) (by kernel_rfl)

/-! heldAutomaton -/
noncomputable def S_heldAutomaton : SC := slimF Try.f38
noncomputable def lp_heldAutomaton : Nat → Code := lpOf Try.f38
theorem dr_heldAutomaton : drawsOK (codeOf Try.f38) = true := by kernel_rfl
theorem fn_heldAutomaton {L n : Nat} {args : List A} {h : H} : evCall env L (n + 1) 38 args h = kCode env (evCall env L n) L h.length [] ([]) lp_heldAutomaton S_heldAutomaton (args ++ List.replicate (Try.f38.ntmps - args.length) (.d .undef)) h (kFin env.P h.length false [.tmp 4]) :=
  fn_eq2 (mode := 1) (by kernel_rfl) Try.func38 (by kernel_rfl) (by kernel_rfl) dr_heldAutomaton (by kernel_rfl) (by kernel_rfl)

/-! i_AutomatonValid -/
noncomputable def S_i_AutomatonValid : SC := slimF Try.f48
noncomputable def lp_i_AutomatonValid : Nat → Code := lpOf Try.f48
theorem dr_i_AutomatonValid : drawsOK (codeOf Try.f48) = true := by kernel_rfl
theorem fn_i_AutomatonValid {L n : Nat} {args : List A} {h : H} : evCall env L (n + 1) 48 args h = kCode env (evCall env L n) L h.length [] (false :: true :: true :: true :: false :: false :: false :: false :: false :: false :: false :: false :: false :: false :: false :: false :: false :: false :: false :: false :: false :: false :: false :: false :: false :: false :: false :: false :: false :: false :: false :: false :: false :: false :: false :: false :: false :: false :: true :: true :: true :: false :: false :: false :: false :: false :: false :: false :: true :: true :: true :: false :: false :: false :: false :: false :: false :: false :: false :: false :: false :: false :: false :: false :: false :: []) lp_i_AutomatonValid S_i_AutomatonValid (args ++ List.replicate (Try.f48.ntmps - args.length) (.d .undef)) h (kFin env.P h.length false [.tmp 2]) :=
  fn_eq2 (mode := 1) (by kernel_rfl) Try.func48 (by kernel_rfl) (by kernel_rfl) dr_i_AutomatonValid (by kernel_rfl) (by kernel_rfl)
noncomputable def S_i_AutomatonValid_0 : SC := slimL Try.f48 0
theorem step_i_AutomatonValid_0 {R : Type} {call : CallF} {L nf n : Nat} {thaw : List Nat} {live m : List Bool} {s : List A} {h : H} {k : Exit → List A → H → Option R} : kLoop env call L nf thaw live (lp_i_AutomatonValid 0) m (n + 1) s h k = kCode env call L nf thaw live lp_i_AutomatonValid S_i_AutomatonValid_0 s h (kNext env call L nf thaw live (lp_i_AutomatonValid 0) m n k) :=
  kLoop_step dr_i_AutomatonValid (by kernel_rfl)
noncomputable def S_i_AutomatonValid_1 : SC := slimL Try.f48 1
theorem step_i_AutomatonValid_1 {R : Type} {call : CallF} {L nf n : Nat} {thaw : List Nat} {live m : List Bool} {s : List A} {h : H} {k : Exit → List A → H → Option R} : kLoop env call L nf thaw live (lp_i_AutomatonValid 1) m (n + 1) s h k = kCode env call L nf thaw live lp_i_AutomatonValid S_i_AutomatonValid_1 s h (kNext env call L nf thaw live (lp_i_AutomatonValid 1) m n k) :=
  kLoop_step dr_i_AutomatonValid (by kernel_rfl)

/-! s_l17Letter -/
noncomputable def S_s_l17Letter : SC := slimF Try.f57
noncomputable def lp_s_l17Letter : Nat → Code := lpOf Try.f57
theorem dr_s_l17Letter : drawsOK (codeOf Try.f57) = true := by kernel_rfl
theorem fn_s_l17Letter {L n : Nat} {args : List A} {h : H} : evCall env L (n + 1) 57 args h = kCode env (evCall env L n) L h.length [] ([]) lp_s_l17Letter S_s_l17Letter (args ++ List.replicate (Try.f57.ntmps - args.length) (.d .undef)) h (kFin env.P h.length false [.tmp 2]) :=
  fn_eq2 (mode := 1) (by kernel_rfl) Try.func57 (by kernel_rfl) (by kernel_rfl) dr_s_l17Letter (by kernel_rfl) (by kernel_rfl)

/-! s_l17Swap -/
noncomputable def S_s_l17Swap : SC := slimF Try.f58
noncomputable def lp_s_l17Swap : Nat → Code := lpOf Try.f58
theorem dr_s_l17Swap : drawsOK (codeOf Try.f58) = true := by kernel_rfl
theorem fn_s_l17Swap {L n : Nat} {args : List A} {h : H} : evCall env L (n + 1) 58 args h = kCode env (evCall env L n) L h.length [] ([]) lp_s_l17Swap S_s_l17Swap (args ++ List.replicate (Try.f58.ntmps - args.length) (.d .undef)) h (kFin env.P h.length false [.tmp 6]) :=
  fn_eq2 (mode := 1) (by kernel_rfl) Try.func58 (by kernel_rfl) (by kernel_rfl) dr_s_l17Swap (by kernel_rfl) (by kernel_rfl)

/-! i_isLetter -/
noncomputable def S_i_isLetter : SC := slimF Try.f60
noncomputable def lp_i_isLetter : Nat → Code := lpOf Try.f60
theorem dr_i_isLetter : drawsOK (codeOf Try.f60) = true := by kernel_rfl
theorem fn_i_isLetter {L n : Nat} {args : List A} {h : H} : evCall env L (n + 1) 60 args h = kCode env (evCall env L n) L h.length [] ([]) lp_i_isLetter S_i_isLetter (args ++ List.replicate (Try.f60.ntmps - args.length) (.d .undef)) h (kFin env.P h.length false [.tmp 2]) :=
  fn_eq2 (mode := 1) (by kernel_rfl) Try.func60 (by kernel_rfl) (by kernel_rfl) dr_i_isLetter (by kernel_rfl) (by kernel_rfl)

/-! i_swapped -/
noncomputable def S_i_swapped : SC := slimF Try.f62
noncomputable def lp_i_swapped : Nat → Code := lpOf Try.f62
theorem dr_i_swapped : drawsOK (codeOf Try.f62) = true := by kernel_rfl
theorem fn_i_swapped {L n : Nat} {args : List A} {h : H} : evCall env L (n + 1) 62 args h = kCode env (evCall env L n) L h.length [] ([]) lp_i_swapped S_i_swapped (args ++ List.replicate (Try.f62.ntmps - args.length) (.d .undef)) h (kFin env.P h.length false [.tmp 6]) :=
  fn_eq2 (mode := 1) (by kernel_rfl) Try.func62 (by kernel_rfl) (by kernel_rfl) dr_i_swapped (by kernel_rfl) (by kernel_rfl)

/-! i_isAlphabet -/
noncomputable def S_i_isAlphabet : SC := slimF Try.f69
noncomputable def lp_i_isAlphabet : Nat → Code := lpOf Try.f69
theorem dr_i_isAlphabet : drawsOK (codeOf Try.f69) = true := by kernel_rfl
theorem fn_i_isAlphabet {L n : Nat} {args : List A} {h : H} : evCall env L (n + 1) 69 args h = kCode env (evCall env L n) L h.length [] ([]) lp_i_isAlphabet S_i_isAlphabet (args ++ List.replicate (Try.f69.ntmps - args.length) (.d .undef)) h (kFin env.P h.length false [.tmp 2]) :=
  fn_eq2 (mode := 1) (by kernel_rfl) Try.func69 (by kernel_rfl) (by kernel_rfl) dr_i_isAlphabet (by kernel_rfl) (by kernel_rfl)

/-! i_lettersOf -/
noncomputable def S_i_lettersOf : SC := slimF Try.f70
noncomputable def lp_i_lettersOf : Nat → Code := lpOf Try.f70
theorem dr_i_lettersOf : drawsOK (codeOf Try.f70) = true := by kernel_rfl
theorem fn_i_lettersOf {L n : Nat} {args : List A} {h : H} : evCall env L (n + 1) 70 args h = kCode env (evCall env L n) L h.length [0, 0, 0, 2] (true :: false :: true :: true :: false :: true :: false :: false :: false :: false :: false :: false :: false :: false :: false :: false :: false :: []) lp_i_lettersOf S_i_lettersOf (args ++ List.replicate (Try.f70.ntmps - args.length) (.d .undef)) h (kFin env.P h.length false [.tmp 2]) :=
  fn_eq2 (mode := 2) (by kernel_rfl) Try.func70 (by kernel_rfl) (by kernel_rfl) dr_i_lettersOf (by kernel_rfl) (by kernel_rfl)
noncomputable def S_i_lettersOf_0 : SC := slimL Try.f70 0
theorem step_i_lettersOf_0 {R : Type} {call : CallF} {L nf n : Nat} {thaw : List Nat} {live m : List Bool} {s : List A} {h : H} {k : Exit → List A → H → Option R} : kLoop env call L nf thaw live (lp_i_lettersOf 0) m (n + 1) s h k = kCode env call L nf thaw live lp_i_lettersOf S_i_lettersOf_0 s h (kNext env call L nf thaw live (lp_i_lettersOf 0) m n k) :=
  kLoop_step dr_i_lettersOf (by kernel_rfl)

/-! s_l1Alphabet -/
noncomputable def S_s_l1Alphabet : SC := slimF Try.f72
noncomputable def lp_s_l1Alphabet : Nat → Code := lpOf Try.f72
theorem dr_s_l1Alphabet : drawsOK (codeOf Try.f72) = true := by kernel_rfl
theorem fn_s_l1Alphabet {L n : Nat} {args : List A} {h : H} : evCall env L (n + 1) 72 args h = kCode env (evCall env L n) L h.length [] ([]) lp_s_l1Alphabet S_s_l1Alphabet (args ++ List.replicate (Try.f72.ntmps - args.length) (.d .undef)) h (kFin env.P h.length false [.tmp 2]) :=
  fn_eq2 (mode := 1) (by kernel_rfl) Try.func72 (by kernel_rfl) (by kernel_rfl) dr_s_l1Alphabet (by kernel_rfl) (by kernel_rfl)

/-! s_l1Has -/
noncomputable def S_s_l1Has : SC := slimF Try.f73
noncomputable def lp_s_l1Has : Nat → Code := lpOf Try.f73
theorem dr_s_l1Has : drawsOK (codeOf Try.f73) = true := by kernel_rfl
theorem fn_s_l1Has {L n : Nat} {args : List A} {h : H} : evCall env L (n + 1) 73 args h = kCode env (evCall env L n) L h.length [] ([]) lp_s_l1Has S_s_l1Has (args ++ List.replicate (Try.f73.ntmps - args.length) (.d .undef)) h (kFin env.P h.length false [.tmp 4]) :=
  fn_eq2 (mode := 1) (by kernel_rfl) Try.func73 (by kernel_rfl) (by kernel_rfl) dr_s_l1Has (by kernel_rfl) (by kernel_rfl)

/-! s_l1Bit -/
noncomputable def S_s_l1Bit : SC := slimF Try.f74
noncomputable def lp_s_l1Bit : Nat → Code := lpOf Try.f74
theorem dr_s_l1Bit : drawsOK (codeOf Try.f74) = true := by kernel_rfl
theorem fn_s_l1Bit {L n : Nat} {args : List A} {h : H} : evCall env L (n + 1) 74 args h = kCode env (evCall env L n) L h.length [] ([]) lp_s_l1Bit S_s_l1Bit (args ++ List.replicate (Try.f74.ntmps - args.length) (.d .undef)) h (kFin env.P h.length false [.tmp 2]) :=
  fn_eq2 (mode := 1) (by kernel_rfl) Try.func74 (by kernel_rfl) (by kernel_rfl) dr_s_l1Bit (by kernel_rfl) (by kernel_rfl)

/-! i_has -/
noncomputable def S_i_has : SC := slimF Try.f76
noncomputable def lp_i_has : Nat → Code := lpOf Try.f76
theorem dr_i_has : drawsOK (codeOf Try.f76) = true := by kernel_rfl
theorem fn_i_has {L n : Nat} {args : List A} {h : H} : evCall env L (n + 1) 76 args h = kCode env (evCall env L n) L h.length [] ([]) lp_i_has S_i_has (args ++ List.replicate (Try.f76.ntmps - args.length) (.d .undef)) h (kFin env.P h.length false [.tmp 4]) :=
  fn_eq2 (mode := 1) (by kernel_rfl) Try.func76 (by kernel_rfl) (by kernel_rfl) dr_i_has (by kernel_rfl) (by kernel_rfl)

/-! szIntSS -/
noncomputable def S_szIntSS : SC := slimF Try.f89
noncomputable def lp_szIntSS : Nat → Code := lpOf Try.f89
theorem dr_szIntSS : drawsOK (codeOf Try.f89) = true := by kernel_rfl
theorem fn_szIntSS {L n : Nat} {args : List A} {h : H} : evCall env L (n + 1) 89 args h = kCode env (evCall env L n) L h.length [] (true :: true :: false :: false :: true :: true :: false :: false :: false :: false :: false :: false :: false :: false :: false :: false :: false :: false :: false :: false :: false :: false :: false :: false :: false :: false :: false :: []) lp_szIntSS S_szIntSS (args ++ List.replicate (Try.f89.ntmps - args.length) (.d .undef)) h (kFin env.P h.length false [.tmp 4]) :=
  fn_eq2 (mode := 1) (by kernel_rfl) Try.func89 (by kernel_rfl) (by kernel_rfl) dr_szIntSS (by kernel_rfl) (by kernel_rfl)
noncomputable def S_szIntSS_0 : SC := slimL Try.f89 0
theorem step_szIntSS_0 {R : Type} {call : CallF} {L nf n : Nat} {thaw : List Nat} {live m : List Bool} {s : List A} {h : H} {k : Exit → List A → H → Option R} : kLoop env call L nf thaw live (lp_szIntSS 0) m (n + 1) s h k = kCode env call L nf thaw live lp_szIntSS S_szIntSS_0 s h (kNext env call L nf thaw live (lp_szIntSS 0) m n k) :=
  kLoop_step dr_szIntSS (by kernel_rfl)

/-! szBoolS -/
noncomputable def S_szBoolS : SC := slimF Try.f90
noncomputable def lp_szBoolS : Nat → Code := lpOf Try.f90
theorem dr_szBoolS : drawsOK (codeOf Try.f90) = true := by kernel_rfl
theorem fn_szBoolS {L n : Nat} {args : List A} {h : H} : evCall env L (n + 1) 90 args h = kCode env (evCall env L n) L h.length [] ([]) lp_szBoolS S_szBoolS (args ++ List.replicate (Try.f90.ntmps - args.length) (.d .undef)) h (kFin env.P h.length false [.tmp 4]) :=
  fn_eq2 (mode := 1) (by kernel_rfl) Try.func90 (by kernel_rfl) (by kernel_rfl) dr_szBoolS (by kernel_rfl) (by kernel_rfl)

/-! s_AutomatonValid -/
noncomputable def S_s_AutomatonValid : SC := slimF Try.f91
noncomputable def lp_s_AutomatonValid : Nat → Code := lpOf Try.f91
theorem dr_s_AutomatonValid : drawsOK (codeOf Try.f91) = true := by kernel_rfl
theorem fn_s_AutomatonValid {L n : Nat} {args : List A} {h : H} : evCall env L (n + 1) 91 args h = kCode env (evCall env L n) L h.length [] (false :: true :: true :: true :: true :: false :: false :: false :: false :: false :: false :: false :: false :: false :: false :: false :: false :: false :: false :: false :: false :: false :: false :: false :: false :: false :: false :: false :: false :: false :: false :: false :: false :: false :: false :: false :: false :: false :: false :: false :: false :: false :: false :: false :: []) lp_s_AutomatonValid S_s_AutomatonValid (args ++ List.replicate (Try.f91.ntmps - args.length) (.d .undef)) h (kFin env.P h.length false [.tmp 2]) :=
  fn_eq2 (mode := 1) (by kernel_rfl) Try.func91 (by kernel_rfl) (by kernel_rfl) dr_s_AutomatonValid (by kernel_rfl) (by kernel_rfl)
noncomputable def S_s_AutomatonValid_0 : SC := slimL Try.f91 0
theorem step_s_AutomatonValid_0 {R : Type} {call : CallF} {L nf n : Nat} {thaw : List Nat} {live m : List Bool} {s : List A} {h : H} {k : Exit → List A → H → Option R} : kLoop env call L nf thaw live (lp_s_AutomatonValid 0) m (n + 1) s h k = kCode env call L nf thaw live lp_s_AutomatonValid S_s_AutomatonValid_0 s h (kNext env call L nf thaw live (lp_s_AutomatonValid 0) m n k) :=
  kLoop_step dr_s_AutomatonValid (by kernel_rfl)

/-! s_l1Letters -/
noncomputable def S_s_l1Letters : SC := slimF Try.f92
noncomputable def lp_s_l1Letters : Nat → Code := lpOf Try.f92
theorem dr_s_l1Letters : drawsOK (codeOf Try.f92) = true := by kernel_rfl
theorem fn_s_l1Letters {L n : Nat} {args : List A} {h : H} : evCall env L (n + 1) 92 args h = kCode env (evCall env L n) L h.length [] (true :: false :: true :: true :: true :: false :: false :: false :: false :: false :: false :: false :: false :: false :: false :: false :: false :: false :: []) lp_s_l1Letters S_s_l1Letters (args ++ List.replicate (Try.f92.ntmps - args.length) (.d .undef)) h (kFin env.P h.length false [.tmp 2]) :=
  fn_eq2 (mode := 2) (by kernel_rfl) Try.func92 (by kernel_rfl) (by kernel_rfl) dr_s_l1Letters (by kernel_rfl) (by kernel_rfl)
noncomputable def S_s_l1Letters_0 : SC := slimL Try.f92 0
theorem step_s_l1Letters_0 {R : Type} {call : CallF} {L nf n : Nat} {thaw : List Nat} {live m : List Bool} {s : List A} {h : H} {k : Exit → List A → H → Option R} : kLoop env call L nf thaw live (lp_s_l1Letters 0) m (n + 1) s h k = kCode env call L nf thaw live lp_s_l1Letters S_s_l1Letters_0 s h (kNext env call L nf thaw live (lp_s_l1Letters 0) m n k) :=
  kLoop_step dr_s_l1Letters (by kernel_rfl)

/-! s_l3Go -/
noncomputable def S_s_l3Go : SC := slimF Try.f93
noncomputable def lp_s_l3Go : Nat → Code := lpOf Try.f93
theorem dr_s_l3Go : drawsOK (codeOf Try.f93) = true := by kernel_rfl
theorem fn_s_l3Go {L n : Nat} {args : List A} {h : H} : evCall env L (n + 1) 93 args h = kCode env (evCall env L n) L h.length [] ([]) lp_s_l3Go S_s_l3Go (args ++ List.replicate (Try.f93.ntmps - args.length) (.d .undef)) h (kFin env.P h.length false [.tmp 6]) :=
  fn_eq2 (mode := 1) (by kernel_rfl) Try.func93 (by kernel_rfl) (by kernel_rfl) dr_s_l3Go (by kernel_rfl) (by kernel_rfl)

/-! toIntSS -/
noncomputable def S_toIntSS : SC := slimF Try.f94
noncomputable def lp_toIntSS : Nat → Code := lpOf Try.f94
theorem dr_toIntSS : drawsOK (codeOf Try.f94) = true := by kernel_rfl
theorem fn_toIntSS {L n : Nat} {args : List A} {h : H} : evCall env L (n + 1) 94 args h = kCode env (evCall env L n) L h.length [0, 0, 0, 0, 0, 0, 0, 1002] (true :: false :: true :: true :: true :: false :: false :: false :: false :: false :: false :: false :: false :: false :: false :: false :: false :: false :: false :: false :: false :: false :: false :: []) lp_toIntSS S_toIntSS (args ++ List.replicate (Try.f94.ntmps - args.length) (.d .undef)) h (kFin env.P h.length true [.tmp 2]) :=
  fn_eq2 (mode := 2) (by kernel_rfl) Try.func94 (by kernel_rfl) (by kernel_rfl) dr_toIntSS (by kernel_rfl) (by kernel_rfl)
noncomputable def S_toIntSS_0 : SC := slimL Try.f94 0
theorem step_toIntSS_0 {R : Type} {call : CallF} {L nf n : Nat} {thaw : List Nat} {live m : List Bool} {s : List A} {h : H} {k : Exit → List A → H → Option R} : kLoop env call L nf thaw live (lp_toIntSS 0) m (n + 1) s h k = kCode env call L nf thaw live lp_toIntSS S_toIntSS_0 s h (kNext env call L nf thaw live (lp_toIntSS 0) m n k) :=
  kLoop_step dr_toIntSS (by kernel_rfl)

/-! toBoolS -/
noncomputable def S_toBoolS : SC := slimF Try.f95
noncomputable def lp_toBoolS : Nat → Code := lpOf Try.f95
theorem dr_toBoolS : drawsOK (codeOf Try.f95) = true := by kernel_rfl
theorem fn_toBoolS {L n : Nat} {args : List A} {h : H} : evCall env L (n + 1) 95 args h = kCode env (evCall env L n) L h.length [] (true :: false :: true :: true :: true :: false :: false :: false :: false :: false :: false :: false :: false :: false :: false :: false :: false :: false :: false :: false :: false :: false :: []) lp_toBoolS S_toBoolS (args ++ List.replicate (Try.f95.ntmps - args.length) (.d .undef)) h (kFin env.P h.length true [.tmp 2]) :=
  fn_eq2 (mode := 2) (by kernel_rfl) Try.func95 (by kernel_rfl) (by kernel_rfl) dr_toBoolS (by kernel_rfl) (by kernel_rfl)
noncomputable def S_toBoolS_0 : SC := slimL Try.f95 0
theorem step_toBoolS_0 {R : Type} {call : CallF} {L nf n : Nat} {thaw : List Nat} {live m : List Bool} {s : List A} {h : H} {k : Exit → List A → H → Option R} : kLoop env call L nf thaw live (lp_toBoolS 0) m (n + 1) s h k = kCode env call L nf thaw live lp_toBoolS S_toBoolS_0 s h (kNext env call L nf thaw live (lp_toBoolS 0) m n k) :=
  kLoop_step dr_toBoolS (by kernel_rfl)

/-! i_tableOf -/
noncomputable def S_i_tableOf : SC := slimF Try.f96
noncomputable def lp_i_tableOf : Nat → Code := lpOf Try.f96
theorem dr_i_tableOf : drawsOK (codeOf Try.f96) = true := by kernel_rfl
theorem fn_i_tableOf {L n : Nat} {args : List A} {h : H} : evCall env L (n + 1) 96 args h = kCode env (evCall env L n) L h.length [] (false :: false :: true :: true :: true :: true :: true :: false :: false :: false :: false :: false :: false :: false :: false :: false :: false :: false :: true :: true :: true :: false :: false :: false :: false :: true :: false :: false :: false :: false :: false :: false :: false :: false :: false :: true :: true :: true :: false :: false :: false :: false :: false :: false :: false :: false :: false :: false :: false :: false :: false :: false :: false :: false :: []) lp_i_tableOf S_i_tableOf (args ++ List.replicate (Try.f96.ntmps - args.length) (.d .undef)) h (kFin env.P h.length false [.tmp 2]) :=
  fn_eq2 (mode := 2) (by kernel_rfl) Try.func96 (by kernel_rfl) (by kernel_rfl) dr_i_tableOf (by kernel_rfl) (by kernel_rfl)
noncomputable def S_i_tableOf_0 : SC := slimL Try.f96 0
theorem step_i_tableOf_0 {R : Type} {call : CallF} {L nf n : Nat} {thaw : List Nat} {live m : List Bool} {s : List A} {h : H} {k : Exit → List A → H → Option R} : kLoop env call L nf thaw live (lp_i_tableOf 0) m (n + 1) s h k = kCode env call L nf thaw live lp_i_tableOf S_i_tableOf_0 s h (kNext env call L nf thaw live (lp_i_tableOf 0) m n k) :=
  kLoop_step dr_i_tableOf (by kernel_rfl)
noncomputable def S_i_tableOf_1 : SC := slimL Try.f96 1
theorem step_i_tableOf_1 {R : Type} {call : CallF} {L nf n : Nat} {thaw : List Nat} {live m : List Bool} {s : List A} {h : H} {k : Exit → List A → H → Option R} : kLoop env call L nf thaw live (lp_i_tableOf 1) m (n + 1) s h k = kCode env call L nf thaw live lp_i_tableOf S_i_tableOf_1 s h (kNext env call L nf thaw live (lp_i_tableOf 1) m n k) :=
  kLoop_step dr_i_tableOf (by kernel_rfl)
noncomputable def S_i_tableOf_2 : SC := slimL Try.f96 2
theorem step_i_tableOf_2 {R : Type} {call : CallF} {L nf n : Nat} {thaw : List Nat} {live m : List Bool} {s : List A} {h : H} {k : Exit → List A → H → Option R} : kLoop env call L nf thaw live (lp_i_tableOf 2) m (n + 1) s h k = kCode env call L nf thaw live lp_i_tableOf S_i_tableOf_2 s h (kNext env call L nf thaw live (lp_i_tableOf 2) m n k) :=
  kLoop_step dr_i_tableOf (by kernel_rfl)

/-! slices_Clone_bool_bool -/
theorem prim_slices_Clone_bool_bool {L n : Nat} {args : List A} {h : H} : evCall env L (n + 1) 97 args h = gClone 1 args h := by
  have : env.prim 97 = some (gClone 1) := by kernel_rfl
  simp only [evCall, this]
/-! eqIntSS -/
noncomputable def S_eqIntSS : SC := slimF Try.f98
noncomputable def lp_eqIntSS : Nat → Code := lpOf Try.f98
theorem dr_eqIntSS : drawsOK (codeOf Try.f98) = true := by kernel_rfl
theorem fn_eqIntSS {L n : Nat} {args : List A} {h : H} : evCall env L (n + 1) 98 args h = kCode env (evCall env L n) L h.length [] (true :: true :: false :: false :: true :: true :: false :: false :: false :: false :: false :: false :: false :: false :: false :: false :: false :: false :: false :: false :: false :: false :: false :: false :: false :: false :: false :: []) lp_eqIntSS S_eqIntSS (args ++ List.replicate (Try.f98.ntmps - args.length) (.d .undef)) h (kFin env.P h.length false [.tmp 4]) :=
  fn_eq2 (mode := 1) (by kernel_rfl) Try.func98 (by kernel_rfl) (by kernel_rfl) dr_eqIntSS (by kernel_rfl) (by kernel_rfl)
noncomputable def S_eqIntSS_0 : SC := slimL Try.f98 0
theorem step_eqIntSS_0 {R : Type} {call : CallF} {L nf n : Nat} {thaw : List Nat} {live m : List Bool} {s : List A} {h : H} {k : Exit → List A → H → Option R} : kLoop env call L nf thaw live (lp_eqIntSS 0) m (n + 1) s h k = kCode env call L nf thaw live lp_eqIntSS S_eqIntSS_0 s h (kNext env call L nf thaw live (lp_eqIntSS 0) m n k) :=
  kLoop_step dr_eqIntSS (by kernel_rfl)

/-! eqBoolS -/
noncomputable def S_eqBoolS : SC := slimF Try.f99
noncomputable def lp_eqBoolS : Nat → Code := lpOf Try.f99
theorem dr_eqBoolS : drawsOK (codeOf Try.f99) = true := by kernel_rfl
theorem fn_eqBoolS {L n : Nat} {args : List A} {h : H} : evCall env L (n + 1) 99 args h = kCode env (evCall env L n) L h.length [] (true :: true :: false :: false :: true :: true :: false :: false :: false :: false :: false :: false :: false :: false :: false :: false :: false :: false :: false :: false :: false :: false :: false :: false :: false :: false :: []) lp_eqBoolS S_eqBoolS (args ++ List.replicate (Try.f99.ntmps - args.length) (.d .undef)) h (kFin env.P h.length false [.tmp 4]) :=
  fn_eq2 (mode := 1) (by kernel_rfl) Try.func99 (by kernel_rfl) (by kernel_rfl) dr_eqBoolS (by kernel_rfl) (by kernel_rfl)
noncomputable def S_eqBoolS_0 : SC := slimL Try.f99 0
theorem step_eqBoolS_0 {R : Type} {call : CallF} {L nf n : Nat} {thaw : List Nat} {live m : List Bool} {s : List A} {h : H} {k : Exit → List A → H → Option R} : kLoop env call L nf thaw live (lp_eqBoolS 0) m (n + 1) s h k = kCode env call L nf thaw live lp_eqBoolS S_eqBoolS_0 s h (kNext env call L nf thaw live (lp_eqBoolS 0) m n k) :=
  kLoop_step dr_eqBoolS (by kernel_rfl)

/-! markIntSS -/
noncomputable def S_markIntSS : SC := slimF Try.f100
noncomputable def lp_markIntSS : Nat → Code := lpOf Try.f100
theorem dr_markIntSS : drawsOK (codeOf Try.f100) = true := by kernel_rfl
theorem fn_markIntSS {L n : Nat} {args : List A} {h : H} : evCall env L (n + 1) 100 args h = kCode env (evCall env L n) L h.length [] (true :: true :: false :: false :: true :: true :: false :: false :: false :: false :: false :: false :: false :: false :: false :: false :: false :: false :: false :: []) lp_markIntSS S_markIntSS (args ++ List.replicate (Try.f100.ntmps - args.length) (.d .undef)) h (kFin env.P h.length false [.tmp 4]) :=
  fn_eq2 (mode := 0) (by kernel_rfl) Try.func100 (by kernel_rfl) (by kernel_rfl) dr_markIntSS (by kernel_rfl) (by kernel_rfl)
noncomputable def S_markIntSS_0 : SC := slimL Try.f100 0
theorem step_markIntSS_0 {R : Type} {call : CallF} {L nf n : Nat} {thaw : List Nat} {live m : List Bool} {s : List A} {h : H} {k : Exit → List A → H → Option R} : kLoop env call L nf thaw live (lp_markIntSS 0) m (n + 1) s h k = kCode env call L nf thaw live lp_markIntSS S_markIntSS_0 s h (kNext env call L nf thaw live (lp_markIntSS 0) m n k) :=
  kLoop_step dr_markIntSS (by kernel_rfl)

/-! markBoolS -/
noncomputable def S_markBoolS : SC := slimF Try.f101
noncomputable def lp_markBoolS : Nat → Code := lpOf Try.f101
theorem dr_markBoolS : drawsOK (codeOf Try.f101) = true := by kernel_rfl
theorem fn_markBoolS {L n : Nat} {args : List A} {h : H} : evCall env L (n + 1) 101 args h = kCode env (evCall env L n) L h.length [] (true :: true :: false :: false :: true :: true :: false :: false :: false :: false :: false :: false :: false :: false :: false :: false :: false :: false :: false :: false :: false :: []) lp_markBoolS S_markBoolS (args ++ List.replicate (Try.f101.ntmps - args.length) (.d .undef)) h (kFin env.P h.length false [.tmp 4]) :=
  fn_eq2 (mode := 0) (by kernel_rfl) Try.func101 (by kernel_rfl) (by kernel_rfl) dr_markBoolS (by kernel_rfl) (by kernel_rfl)
noncomputable def S_markBoolS_0 : SC := slimL Try.f101 0
theorem step_markBoolS_0 {R : Type} {call : CallF} {L nf n : Nat} {thaw : List Nat} {live m : List Bool} {s : List A} {h : H} {k : Exit → List A → H → Option R} : kLoop env call L nf thaw live (lp_markBoolS 0) m (n + 1) s h k = kCode env call L nf thaw live lp_markBoolS S_markBoolS_0 s h (kNext env call L nf thaw live (lp_markBoolS 0) m n k) :=
  kLoop_step dr_markBoolS (by kernel_rfl)

/-! heldIntSS -/
noncomputable def S_heldIntSS : SC := slimF Try.f102
noncomputable def lp_heldIntSS : Nat → Code := lpOf Try.f102
theorem dr_heldIntSS : drawsOK (codeOf Try.f102) = true := by kernel_rfl
theorem fn_heldIntSS {L n : Nat} {args : List A} {h : H} : evCall env L (n + 1) 102 args h = kCode env (evCall env L n) L h.length [] (true :: true :: false :: false :: true :: true :: false :: false :: false :: false :: false :: false :: false :: false :: false :: false :: false :: false :: false :: false :: false :: []) lp_heldIntSS S_heldIntSS (args ++ List.replicate (Try.f102.ntmps - args.length) (.d .undef)) h (kFin env.P h.length false [.tmp 4]) :=
  fn_eq2 (mode := 1) (by kernel_rfl) Try.func102 (by kernel_rfl) (by kernel_rfl) dr_heldIntSS (by kernel_rfl) (by kernel_rfl)
noncomputable def S_heldIntSS_0 : SC := slimL Try.f102 0
theorem step_heldIntSS_0 {R : Type} {call : CallF} {L nf n : Nat} {thaw : List Nat} {live m : List Bool} {s : List A} {h : H} {k : Exit → List A → H → Option R} : kLoop env call L nf thaw live (lp_heldIntSS 0) m (n + 1) s h k = kCode env call L nf thaw live lp_heldIntSS S_heldIntSS_0 s h (kNext env call L nf thaw live (lp_heldIntSS 0) m n k) :=
  kLoop_step dr_heldIntSS (by kernel_rfl)

/-! heldBoolS -/
noncomputable def S_heldBoolS : SC := slimF Try.f103
noncomputable def lp_heldBoolS : Nat → Code := lpOf Try.f103
theorem dr_heldBoolS : drawsOK (codeOf Try.f103) = true := by kernel_rfl
theorem fn_heldBoolS {L n : Nat} {args : List A} {h : H} : evCall env L (n + 1) 103 args h = kCode env (evCall env L n) L h.length [] (true :: true :: false :: false :: true :: true :: false :: false :: false :: false :: false :: false :: false :: false :: false :: false :: false :: false :: false :: false :: false :: false :: false :: []) lp_heldBoolS S_heldBoolS (args ++ List.replicate (Try.f103.ntmps - args.length) (.d .undef)) h (kFin env.P h.length false [.tmp 4]) :=
  fn_eq2 (mode := 1) (by kernel_rfl) Try.func103 (by kernel_rfl) (by kernel_rfl) dr_heldBoolS (by kernel_rfl) (by kernel_rfl)
noncomputable def S_heldBoolS_0 : SC := slimL Try.f103 0
theorem step_heldBoolS_0 {R : Type} {call : CallF} {L nf n : Nat} {thaw : List Nat} {live m : List Bool} {s : List A} {h : H} {k : Exit → List A → H → Option R} : kLoop env call L nf thaw live (lp_heldBoolS 0) m (n + 1) s h k = kCode env call L nf thaw live lp_heldBoolS S_heldBoolS_0 s h (kNext env call L nf thaw live (lp_heldBoolS 0) m n k) :=
  kLoop_step dr_heldBoolS (by kernel_rfl)

/-! szIntS -/
noncomputable def S_szIntS : SC := slimF Try.f129
noncomputable def lp_szIntS : Nat → Code := lpOf Try.f129
theorem dr_szIntS : drawsOK (codeOf Try.f129) = true := by kernel_rfl
theorem fn_szIntS {L n : Nat} {args : List A} {h : H} : evCall env L (n + 1) 129 args h = kCode env (evCall env L n) L h.length [] ([]) lp_szIntS S_szIntS (args ++ List.replicate (Try.f129.ntmps - args.length) (.d .undef)) h (kFin env.P h.length false [.tmp 4]) :=
  fn_eq2 (mode := 1) (by kernel_rfl) Try.func129 (by kernel_rfl) (by kernel_rfl) dr_szIntS (by kernel_rfl) (by kernel_rfl)

/-! s_l3Row -/
noncomputable def S_s_l3Row : SC := slimF Try.f130
noncomputable def lp_s_l3Row : Nat → Code := lpOf Try.f130
theorem dr_s_l3Row : drawsOK (codeOf Try.f130) = true := by kernel_rfl
theorem fn_s_l3Row {L n : Nat} {args : List A} {h : H} : evCall env L (n + 1) 130 args h = kCode env (evCall env L n) L h.length [] (true :: false :: true :: false :: false :: false :: true :: true :: false :: false :: false :: false :: false :: false :: false :: false :: false :: false :: false :: false :: false :: false :: false :: false :: false :: false :: false :: false :: false :: false :: false :: []) lp_s_l3Row S_s_l3Row (args ++ List.replicate (Try.f130.ntmps - args.length) (.d .undef)) h (kFin env.P h.length false [.tmp 6]) :=
  fn_eq2 (mode := 1) (by kernel_rfl) Try.func130 (by kernel_rfl) (by kernel_rfl) dr_s_l3Row (by kernel_rfl) (by kernel_rfl)
noncomputable def S_s_l3Row_0 : SC := slimL Try.f130 0
theorem step_s_l3Row_0 {R : Type} {call : CallF} {L nf n : Nat} {thaw : List Nat} {live m : List Bool} {s : List A} {h : H} {k : Exit → List A → H → Option R} : kLoop env call L nf thaw live (lp_s_l3Row 0) m (n + 1) s h k = kCode env call L nf thaw live lp_s_l3Row S_s_l3Row_0 s h (kNext env call L nf thaw live (lp_s_l3Row 0) m n k) :=
  kLoop_step dr_s_l3Row (by kernel_rfl)

/-! s_l1Place -/
noncomputable def S_s_l1Place : SC := slimF Try.f131
noncomputable def lp_s_l1Place : Nat → Code := lpOf Try.f131
theorem dr_s_l1Place : drawsOK (codeOf Try.f131) = true := by kernel_rfl
theorem fn_s_l1Place {L n : Nat} {args : List A} {h : H} : evCall env L (n + 1) 131 args h = kCode env (evCall env L n) L h.length [] (true :: true :: false :: false :: true :: true :: true :: false :: false :: false :: false :: false :: false :: false :: false :: false :: false :: false :: []) lp_s_l1Place S_s_l1Place (args ++ List.replicate (Try.f131.ntmps - args.length) (.d .undef)) h (kFin env.P h.length false [.tmp 4]) :=
  fn_eq2 (mode := 1) (by kernel_rfl) Try.func131 (by kernel_rfl) (by kernel_rfl) dr_s_l1Place (by kernel_rfl) (by kernel_rfl)
noncomputable def S_s_l1Place_0 : SC := slimL Try.f131 0
theorem step_s_l1Place_0 {R : Type} {call : CallF} {L nf n : Nat} {thaw : List Nat} {live m : List Bool} {s : List A} {h : H} {k : Exit → List A → H → Option R} : kLoop env call L nf thaw live (lp_s_l1Place 0) m (n + 1) s h k = kCode env call L nf thaw live lp_s_l1Place S_s_l1Place_0 s h (kNext env call L nf thaw live (lp_s_l1Place 0) m n k) :=
  kLoop_step dr_s_l1Place (by kernel_rfl)

/-! toIntS -/
noncomputable def S_toIntS : SC := slimF Try.f132
noncomputable def lp_toIntS : Nat → Code := lpOf Try.f132
theorem dr_toIntS : drawsOK (codeOf Try.f132) = true := by kernel_rfl
theorem fn_toIntS {L n : Nat} {args : List A} {h : H} : evCall env L (n + 1) 132 args h = kCode env (evCall env L n) L h.length [] (true :: false :: true :: true :: true :: false :: false :: false :: false :: false :: false :: false :: false :: false :: false :: false :: false :: false :: false :: false :: false :: false :: []) lp_toIntS S_toIntS (args ++ List.replicate (Try.f132.ntmps - args.length) (.d .undef)) h (kFin env.P h.length true [.tmp 2]) :=
  fn_eq2 (mode := 2) (by kernel_rfl) Try.func132 (by kernel_rfl) (by kernel_rfl) dr_toIntS (by kernel_rfl) (by kernel_rfl)
noncomputable def S_toIntS_0 : SC := slimL Try.f132 0
theorem step_toIntS_0 {R : Type} {call : CallF} {L nf n : Nat} {thaw : List Nat} {live m : List Bool} {s : List A} {h : H} {k : Exit → List A → H → Option R} : kLoop env call L nf thaw live (lp_toIntS 0) m (n + 1) s h k = kCode env call L nf thaw live lp_toIntS S_toIntS_0 s h (kNext env call L nf thaw live (lp_toIntS 0) m n k) :=
  kLoop_step dr_toIntS (by kernel_rfl)

/-! eqIntS -/
noncomputable def S_eqIntS : SC := slimF Try.f133
noncomputable def lp_eqIntS : Nat → Code := lpOf Try.f133
theorem dr_eqIntS : drawsOK (codeOf Try.f133) = true := by kernel_rfl
theorem fn_eqIntS {L n : Nat} {args : List A} {h : H} : evCall env L (n + 1) 133 args h = kCode env (evCall env L n) L h.length [] (true :: true :: false :: false :: true :: true :: false :: false :: false :: false :: false :: false :: false :: false :: false :: false :: false :: false :: false :: false :: false :: false :: false :: false :: false :: false :: []) lp_eqIntS S_eqIntS (args ++ List.replicate (Try.f133.ntmps - args.length) (.d .undef)) h (kFin env.P h.length false [.tmp 4]) :=
  fn_eq2 (mode := 1) (by kernel_rfl) Try.func133 (by kernel_rfl) (by kernel_rfl) dr_eqIntS (by kernel_rfl) (by kernel_rfl)
noncomputable def S_eqIntS_0 : SC := slimL Try.f133 0
theorem step_eqIntS_0 {R : Type} {call : CallF} {L nf n : Nat} {thaw : List Nat} {live m : List Bool} {s : List A} {h : H} {k : Exit → List A → H → Option R} : kLoop env call L nf thaw live (lp_eqIntS 0) m (n + 1) s h k = kCode env call L nf thaw live lp_eqIntS S_eqIntS_0 s h (kNext env call L nf thaw live (lp_eqIntS 0) m n k) :=
  kLoop_step dr_eqIntS (by kernel_rfl)

/-! markIntS -/
noncomputable def S_markIntS : SC := slimF Try.f134
noncomputable def lp_markIntS : Nat → Code := lpOf Try.f134
theorem dr_markIntS : drawsOK (codeOf Try.f134) = true := by kernel_rfl
theorem fn_markIntS {L n : Nat} {args : List A} {h : H} : evCall env L (n + 1) 134 args h = kCode env (evCall env L n) L h.length [] (true :: true :: false :: false :: true :: true :: false :: false :: false :: false :: false :: false :: false :: false :: false :: false :: false :: false :: false :: []) lp_markIntS S_markIntS (args ++ List.replicate (Try.f134.ntmps - args.length) (.d .undef)) h (kFin env.P h.length false [.tmp 4]) :=
  fn_eq2 (mode := 0) (by kernel_rfl) Try.func134 (by kernel_rfl) (by kernel_rfl) dr_markIntS (by kernel_rfl) (by kernel_rfl)
noncomputable def S_markIntS_0 : SC := slimL Try.f134 0
theorem step_markIntS_0 {R : Type} {call : CallF} {L nf n : Nat} {thaw : List Nat} {live m : List Bool} {s : List A} {h : H} {k : Exit → List A → H → Option R} : kLoop env call L nf thaw live (lp_markIntS 0) m (n + 1) s h k = kCode env call L nf thaw live lp_markIntS S_markIntS_0 s h (kNext env call L nf thaw live (lp_markIntS 0) m n k) :=
  kLoop_step dr_markIntS (by kernel_rfl)

/-! heldIntS -/
noncomputable def S_heldIntS : SC := slimF Try.f135
noncomputable def lp_heldIntS : Nat → Code := lpOf Try.f135
theorem dr_heldIntS : drawsOK (codeOf Try.f135) = true := by kernel_rfl
theorem fn_heldIntS {L n : Nat} {args : List A} {h : H} : evCall env L (n + 1) 135 args h = kCode env (evCall env L n) L h.length [] (true :: true :: false :: false :: true :: true :: false :: false :: false :: false :: false :: false :: false :: false :: false :: false :: false :: false :: false :: false :: false :: []) lp_heldIntS S_heldIntS (args ++ List.replicate (Try.f135.ntmps - args.length) (.d .undef)) h (kFin env.P h.length false [.tmp 4]) :=
  fn_eq2 (mode := 1) (by kernel_rfl) Try.func135 (by kernel_rfl) (by kernel_rfl) dr_heldIntS (by kernel_rfl) (by kernel_rfl)
noncomputable def S_heldIntS_0 : SC := slimL Try.f135 0
theorem step_heldIntS_0 {R : Type} {call : CallF} {L nf n : Nat} {thaw : List Nat} {live m : List Bool} {s : List A} {h : H} {k : Exit → List A → H → Option R} : kLoop env call L nf thaw live (lp_heldIntS 0) m (n + 1) s h k = kCode env call L nf thaw live lp_heldIntS S_heldIntS_0 s h (kNext env call L nf thaw live (lp_heldIntS 0) m n k) :=
  kLoop_step dr_heldIntS (by kernel_rfl)

end Ev
end Go.Proofs.Ytidobgmklcbcpaa
