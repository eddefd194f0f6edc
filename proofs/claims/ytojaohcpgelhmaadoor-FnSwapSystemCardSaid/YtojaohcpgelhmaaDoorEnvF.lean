/-
  Each function's code as an equation. Written by a program.
-/
import Derived.Test.YtojaohcpgelhmaaDoorEnv
set_option maxRecDepth 100000
namespace Go.Proofs.YtojaohcpgelhmaaDoor
namespace Ev

/-! FnSwapSystem -/
noncomputable def S_FnSwapSystem : SC := slimF Tryd.f3
noncomputable def lp_FnSwapSystem : Nat → Code := lpOf Tryd.f3
theorem dr_FnSwapSystem : drawsOK (codeOf Tryd.f3) = true := by kernel_rfl
theorem fn_FnSwapSystem {L n : Nat} {args : List A} {h : H} : evCall env L (n + 1) 3 args h = kCode env (evCall env L n) L h.length [] (false :: false :: true :: true :: true :: true :: true :: false :: false :: false :: true :: false :: false :: false :: false :: false :: false :: false :: false :: false :: false :: false :: false :: false :: false :: false :: false :: false :: false :: false :: false :: false :: false :: false :: false :: false :: false :: false :: false :: false :: false :: false :: false :: false :: false :: false :: false :: false :: false :: false :: false :: false :: false :: false :: false :: false :: false :: false :: false :: false :: false :: false :: false :: false :: false :: false :: false :: false :: false :: false :: false :: false :: false :: false :: false :: false :: false :: false :: false :: false :: false :: false :: false :: false :: false :: false :: false :: false :: false :: false :: false :: false :: false :: false :: false :: false :: false :: false :: false :: []) lp_FnSwapSystem S_FnSwapSystem (args ++ List.replicate (Tryd.f3.ntmps - args.length) (.d .undef)) h (kFin env.P h.length false [.tmp 2]) :=
  fn_eq2 (mode := 1) (by kernel_rfl) Tryd.func3 (by kernel_rfl) (by kernel_rfl) dr_FnSwapSystem (by kernel_rfl) (by kernel_rfl)
noncomputable def S_FnSwapSystem_0 : SC := slimL Tryd.f3 0
theorem step_FnSwapSystem_0 {R : Type} {call : CallF} {L nf n : Nat} {thaw : List Nat} {live m : List Bool} {s : List A} {h : H} {k : Exit → List A → H → Option R} : kLoop env call L nf thaw live (lp_FnSwapSystem 0) m (n + 1) s h k = kCode env call L nf thaw live lp_FnSwapSystem S_FnSwapSystem_0 s h (kNext env call L nf thaw live (lp_FnSwapSystem 0) m n k) :=
  kLoop_step dr_FnSwapSystem (by kernel_rfl)

/-! s_DrawSwapSystem -/
noncomputable def S_s_DrawSwapSystem : SC := slimF Tryd.f6
noncomputable def lp_s_DrawSwapSystem : Nat → Code := lpOf Tryd.f6
theorem dr_s_DrawSwapSystem : drawsOK (codeOf Tryd.f6) = true := by kernel_rfl
theorem fn_s_DrawSwapSystem {L n : Nat} {args : List A} {h : H} : evCall env L (n + 1) 6 args h = kCode env (evCall env L n) L h.length [] ([]) lp_s_DrawSwapSystem S_s_DrawSwapSystem (args ++ List.replicate (Tryd.f6.ntmps - args.length) (.d .undef)) h (kFin env.P h.length false Tryd.f6.results.toList) :=
  fn_eq2 (mode := 2) (by kernel_rfl) Tryd.func6 (by kernel_rfl) (by kernel_rfl) dr_s_DrawSwapSystem (by kernel_rfl) (by kernel_rfl)

/-! i_SwapSystem -/
noncomputable def S_i_SwapSystem : SC := slimF Tryd.f7
noncomputable def lp_i_SwapSystem : Nat → Code := lpOf Tryd.f7
theorem dr_i_SwapSystem : drawsOK (codeOf Tryd.f7) = true := by kernel_rfl
theorem fn_i_SwapSystem {L n : Nat} {args : List A} {h : H} : evCall env L (n + 1) 7 args h = kCode env (evCall env L n) L h.length [] (false :: true :: true :: false :: false :: false :: true :: true :: true :: false :: false :: false :: false :: false :: false :: false :: false :: false :: false :: false :: false :: false :: false :: false :: false :: false :: false :: false :: false :: false :: false :: false :: false :: false :: true :: true :: true :: false :: false :: false :: false :: false :: false :: false :: false :: false :: false :: false :: false :: false :: false :: false :: false :: false :: false :: false :: false :: false :: false :: false :: []) lp_i_SwapSystem S_i_SwapSystem (args ++ List.replicate (Tryd.f7.ntmps - args.length) (.d .undef)) h (kFin env.P h.length true Tryd.f7.results.toList) :=
  fn_eq2 (mode := 3) (by kernel_rfl) Tryd.func7 (by kernel_rfl) (by kernel_rfl) dr_i_SwapSystem (by kernel_rfl) (by kernel_rfl)
noncomputable def S_i_SwapSystem_0 : SC := slimL Tryd.f7 0
theorem step_i_SwapSystem_0 {R : Type} {call : CallF} {L nf n : Nat} {thaw : List Nat} {live m : List Bool} {s : List A} {h : H} {k : Exit → List A → H → Option R} : kLoop env call L nf thaw live (lp_i_SwapSystem 0) m (n + 1) s h k = kCode env call L nf thaw live lp_i_SwapSystem S_i_SwapSystem_0 s h (kNext env call L nf thaw live (lp_i_SwapSystem 0) m n k) :=
  kLoop_step dr_i_SwapSystem (by kernel_rfl)

/-! s_SwapSystem -/
noncomputable def S_s_SwapSystem : SC := slimF Tryd.f8
noncomputable def lp_s_SwapSystem : Nat → Code := lpOf Tryd.f8
theorem dr_s_SwapSystem : drawsOK (codeOf Tryd.f8) = true := by kernel_rfl
theorem fn_s_SwapSystem {L n : Nat} {args : List A} {h : H} : evCall env L (n + 1) 8 args h = kCode env (evCall env L n) L h.length [] (false :: true :: true :: true :: false :: false :: true :: true :: true :: true :: false :: false :: false :: false :: false :: false :: false :: false :: false :: false :: false :: false :: false :: false :: false :: false :: false :: false :: false :: false :: false :: false :: false :: false :: false :: false :: false :: false :: false :: false :: false :: false :: false :: false :: false :: false :: false :: false :: false :: false :: false :: false :: false :: false :: false :: false :: false :: false :: false :: false :: false :: []) lp_s_SwapSystem S_s_SwapSystem (args ++ List.replicate (Tryd.f8.ntmps - args.length) (.d .undef)) h (kFin env.P h.length false Tryd.f8.results.toList) :=
  fn_eq2 (mode := 2) (by kernel_rfl) Tryd.func8 (by kernel_rfl) (by kernel_rfl) dr_s_SwapSystem (by kernel_rfl) (by kernel_rfl)
noncomputable def S_s_SwapSystem_0 : SC := slimL Tryd.f8 0
theorem step_s_SwapSystem_0 {R : Type} {call : CallF} {L nf n : Nat} {thaw : List Nat} {live m : List Bool} {s : List A} {h : H} {k : Exit → List A → H → Option R} : kLoop env call L nf thaw live (lp_s_SwapSystem 0) m (n + 1) s h k = kCode env call L nf thaw live lp_s_SwapSystem S_s_SwapSystem_0 s h (kNext env call L nf thaw live (lp_s_SwapSystem 0) m n k) :=
  kLoop_step dr_s_SwapSystem (by kernel_rfl)

/-! agSystems -/
noncomputable def S_agSystems : SC := slimF Tryd.f9
noncomputable def lp_agSystems : Nat → Code := lpOf Tryd.f9
theorem dr_agSystems : drawsOK (codeOf Tryd.f9) = true := by kernel_rfl
theorem fn_agSystems {L n : Nat} {args : List A} {h : H} : evCall env L (n + 1) 9 args h = kCode env (evCall env L n) L h.length [] (false :: false :: true :: true :: true :: true :: false :: false :: false :: false :: false :: false :: false :: false :: false :: false :: false :: false :: false :: false :: false :: false :: false :: false :: false :: false :: false :: false :: false :: false :: false :: false :: false :: false :: false :: false :: false :: false :: false :: false :: false :: false :: false :: false :: false :: []) lp_agSystems S_agSystems (args ++ List.replicate (Tryd.f9.ntmps - args.length) (.d .undef)) h (kFin env.P h.length false [.tmp 4]) :=
  fn_eq2 (mode := 1) (by kernel_rfl) Tryd.func9 (by kernel_rfl) (by kernel_rfl) dr_agSystems (by kernel_rfl) (by kernel_rfl)
noncomputable def S_agSystems_0 : SC := slimL Tryd.f9 0
theorem step_agSystems_0 {R : Type} {call : CallF} {L nf n : Nat} {thaw : List Nat} {live m : List Bool} {s : List A} {h : H} {k : Exit → List A → H → Option R} : kLoop env call L nf thaw live (lp_agSystems 0) m (n + 1) s h k = kCode env call L nf thaw live lp_agSystems S_agSystems_0 s h (kNext env call L nf thaw live (lp_agSystems 0) m n k) :=
  kLoop_step dr_agSystems (by kernel_rfl)

/-! i_WordAt -/
noncomputable def S_i_WordAt : SC := slimF Tryd.f10
noncomputable def lp_i_WordAt : Nat → Code := lpOf Tryd.f10
theorem dr_i_WordAt : drawsOK (codeOf Tryd.f10) = true := by kernel_rfl
theorem fn_i_WordAt {L n : Nat} {args : List A} {h : H} : evCall env L (n + 1) 10 args h = kCode env (evCall env L n) L h.length [0, 0, 0, 0, 0, 0, 0, 2] (true :: false :: false :: false :: true :: true :: true :: true :: false :: false :: false :: false :: false :: false :: false :: false :: false :: false :: false :: false :: false :: false :: false :: false :: false :: false :: false :: false :: false :: false :: false :: false :: false :: false :: false :: false :: false :: false :: false :: false :: false :: false :: false :: false :: false :: false :: false :: false :: []) lp_i_WordAt S_i_WordAt (args ++ List.replicate (Tryd.f10.ntmps - args.length) (.d .undef)) h (kFin env.P h.length false [.tmp 4, .tmp 5]) :=
  fn_eq2 (mode := 1) (by kernel_rfl) Tryd.func10 (by kernel_rfl) (by kernel_rfl) dr_i_WordAt (by kernel_rfl) (by kernel_rfl)
noncomputable def S_i_WordAt_0 : SC := slimL Tryd.f10 0
theorem step_i_WordAt_0 {R : Type} {call : CallF} {L nf n : Nat} {thaw : List Nat} {live m : List Bool} {s : List A} {h : H} {k : Exit → List A → H → Option R} : kLoop env call L nf thaw live (lp_i_WordAt 0) m (n + 1) s h k = kCode env call L nf thaw live lp_i_WordAt S_i_WordAt_0 s h (kNext env call L nf thaw live (lp_i_WordAt 0) m n k) :=
  kLoop_step dr_i_WordAt (by kernel_rfl)

/-! i_StatesAfter -/
noncomputable def S_i_StatesAfter : SC := slimF Tryd.f11
noncomputable def lp_i_StatesAfter : Nat → Code := lpOf Tryd.f11
theorem dr_i_StatesAfter : drawsOK (codeOf Tryd.f11) = true := by kernel_rfl
theorem fn_i_StatesAfter {L n : Nat} {args : List A} {h : H} : evCall env L (n + 1) 11 args h = kCode env (evCall env L n) L h.length [] (false :: true :: false :: false :: true :: true :: true :: true :: false :: false :: false :: false :: false :: false :: false :: false :: false :: false :: false :: false :: false :: false :: false :: false :: false :: false :: false :: false :: false :: false :: false :: false :: false :: false :: false :: false :: false :: []) lp_i_StatesAfter S_i_StatesAfter (args ++ List.replicate (Tryd.f11.ntmps - args.length) (.d .undef)) h (kFin env.P h.length false [.tmp 4]) :=
  fn_eq2 (mode := 1) (by kernel_rfl) Tryd.func11 (by kernel_rfl) (by kernel_rfl) dr_i_StatesAfter (by kernel_rfl) (by kernel_rfl)
noncomputable def S_i_StatesAfter_0 : SC := slimL Tryd.f11 0
theorem step_i_StatesAfter_0 {R : Type} {call : CallF} {L nf n : Nat} {thaw : List Nat} {live m : List Bool} {s : List A} {h : H} {k : Exit → List A → H → Option R} : kLoop env call L nf thaw live (lp_i_StatesAfter 0) m (n + 1) s h k = kCode env call L nf thaw live lp_i_StatesAfter S_i_StatesAfter_0 s h (kNext env call L nf thaw live (lp_i_StatesAfter 0) m n k) :=
  kLoop_step dr_i_StatesAfter (by kernel_rfl)

/-! i_SwapWord -/
noncomputable def S_i_SwapWord : SC := slimF Tryd.f12
noncomputable def lp_i_SwapWord : Nat → Code := lpOf Tryd.f12
theorem dr_i_SwapWord : drawsOK (codeOf Tryd.f12) = true := by kernel_rfl
theorem fn_i_SwapWord {L n : Nat} {args : List A} {h : H} : evCall env L (n + 1) 12 args h = kCode env (evCall env L n) L h.length [] (true :: true :: true :: false :: false :: false :: true :: true :: false :: false :: false :: false :: false :: false :: false :: false :: false :: false :: false :: false :: false :: false :: false :: false :: false :: false :: true :: true :: false :: false :: false :: false :: false :: false :: false :: false :: false :: false :: false :: false :: false :: false :: false :: []) lp_i_SwapWord S_i_SwapWord (args ++ List.replicate (Tryd.f12.ntmps - args.length) (.d .undef)) h (kFin env.P h.length false [.tmp 6]) :=
  fn_eq2 (mode := 1) (by kernel_rfl) Tryd.func12 (by kernel_rfl) (by kernel_rfl) dr_i_SwapWord (by kernel_rfl) (by kernel_rfl)
noncomputable def S_i_SwapWord_0 : SC := slimL Tryd.f12 0
theorem step_i_SwapWord_0 {R : Type} {call : CallF} {L nf n : Nat} {thaw : List Nat} {live m : List Bool} {s : List A} {h : H} {k : Exit → List A → H → Option R} : kLoop env call L nf thaw live (lp_i_SwapWord 0) m (n + 1) s h k = kCode env call L nf thaw live lp_i_SwapWord S_i_SwapWord_0 s h (kNext env call L nf thaw live (lp_i_SwapWord 0) m n k) :=
  kLoop_step dr_i_SwapWord (by kernel_rfl)

/-! i_SystemValid -/
noncomputable def S_i_SystemValid : SC := slimF Tryd.f13
noncomputable def lp_i_SystemValid : Nat → Code := lpOf Tryd.f13
theorem dr_i_SystemValid : drawsOK (codeOf Tryd.f13) = true := by kernel_rfl
theorem fn_i_SystemValid {L n : Nat} {args : List A} {h : H} : evCall env L (n + 1) 13 args h = kCode env (evCall env L n) L h.length [] (false :: true :: true :: false :: false :: false :: false :: false :: false :: false :: false :: false :: false :: false :: false :: false :: false :: false :: false :: false :: true :: true :: true :: false :: false :: false :: false :: false :: false :: false :: false :: false :: false :: false :: false :: false :: false :: false :: false :: false :: false :: false :: false :: false :: false :: false :: false :: false :: false :: false :: false :: false :: false :: false :: false :: false :: false :: false :: false :: false :: false :: false :: false :: false :: false :: false :: false :: false :: []) lp_i_SystemValid S_i_SystemValid (args ++ List.replicate (Tryd.f13.ntmps - args.length) (.d .undef)) h (kFin env.P h.length false [.tmp 2]) :=
  fn_eq2 (mode := 1) (by kernel_rfl) Tryd.func13 (by kernel_rfl) (by kernel_rfl) dr_i_SystemValid (by kernel_rfl) (by kernel_rfl)
noncomputable def S_i_SystemValid_0 : SC := slimL Tryd.f13 0
theorem step_i_SystemValid_0 {R : Type} {call : CallF} {L nf n : Nat} {thaw : List Nat} {live m : List Bool} {s : List A} {h : H} {k : Exit → List A → H → Option R} : kLoop env call L nf thaw live (lp_i_SystemValid 0) m (n + 1) s h k = kCode env call L nf thaw live lp_i_SystemValid S_i_SystemValid_0 s h (kNext env call L nf thaw live (lp_i_SystemValid 0) m n k) :=
  kLoop_step dr_i_SystemValid (by kernel_rfl)

/-! s_l19Open -/
noncomputable def S_s_l19Open : SC := slimF Tryd.f22
noncomputable def lp_s_l19Open : Nat → Code := lpOf Tryd.f22
theorem dr_s_l19Open : drawsOK (codeOf Tryd.f22) = true := by kernel_rfl
theorem fn_s_l19Open {L n : Nat} {args : List A} {h : H} : evCall env L (n + 1) 22 args h = kCode env (evCall env L n) L h.length [] ([]) lp_s_l19Open S_s_l19Open (args ++ List.replicate (Tryd.f22.ntmps - args.length) (.d .undef)) h (kFin env.P h.length true [.tmp 2]) :=
  fn_eq2 (mode := 2) (by kernel_rfl) Tryd.func22 (by kernel_rfl) (by kernel_rfl) dr_s_l19Open (by kernel_rfl) (by kernel_rfl)

/-! s_l2Any -/
noncomputable def S_s_l2Any : SC := slimF Tryd.f23
noncomputable def lp_s_l2Any : Nat → Code := lpOf Tryd.f23
theorem dr_s_l2Any : drawsOK (codeOf Tryd.f23) = true := by kernel_rfl
theorem fn_s_l2Any {L n : Nat} {args : List A} {h : H} : evCall env L (n + 1) 23 args h = kCode env (evCall env L n) L h.length [] ([]) lp_s_l2Any S_s_l2Any (args ++ List.replicate (Tryd.f23.ntmps - args.length) (.d .undef)) h (kFin env.P h.length false Tryd.f23.results.toList) :=
  fn_eq2 (mode := 0) (by kernel_rfl) Tryd.func23 (by kernel_rfl) (by kernel_rfl) dr_s_l2Any (by kernel_rfl) (by kernel_rfl)

/-! s_l17Two -/
noncomputable def S_s_l17Two : SC := slimF Tryd.f24
noncomputable def lp_s_l17Two : Nat → Code := lpOf Tryd.f24
theorem dr_s_l17Two : drawsOK (codeOf Tryd.f24) = true := by kernel_rfl
theorem fn_s_l17Two {L n : Nat} {args : List A} {h : H} : evCall env L (n + 1) 24 args h = kCode env (evCall env L n) L h.length [] ([]) lp_s_l17Two S_s_l17Two (args ++ List.replicate (Tryd.f24.ntmps - args.length) (.d .undef)) h (kFin env.P h.length false [.tmp 2, .tmp 3]) :=
  fn_eq2 (mode := 0) (by kernel_rfl) Tryd.func24 (by kernel_rfl) (by kernel_rfl) dr_s_l17Two (by kernel_rfl) (by kernel_rfl)

/-! i_isLetter -/
noncomputable def S_i_isLetter : SC := slimF Tryd.f25
noncomputable def lp_i_isLetter : Nat → Code := lpOf Tryd.f25
theorem dr_i_isLetter : drawsOK (codeOf Tryd.f25) = true := by kernel_rfl
theorem fn_i_isLetter {L n : Nat} {args : List A} {h : H} : evCall env L (n + 1) 25 args h = kCode env (evCall env L n) L h.length [] ([]) lp_i_isLetter S_i_isLetter (args ++ List.replicate (Tryd.f25.ntmps - args.length) (.d .undef)) h (kFin env.P h.length false [.tmp 2]) :=
  fn_eq2 (mode := 1) (by kernel_rfl) Tryd.func25 (by kernel_rfl) (by kernel_rfl) dr_i_isLetter (by kernel_rfl) (by kernel_rfl)

/-! i_SwapAlphabet -/
noncomputable def S_i_SwapAlphabet : SC := slimF Tryd.f26
noncomputable def lp_i_SwapAlphabet : Nat → Code := lpOf Tryd.f26
theorem dr_i_SwapAlphabet : drawsOK (codeOf Tryd.f26) = true := by kernel_rfl
theorem fn_i_SwapAlphabet {L n : Nat} {args : List A} {h : H} : evCall env L (n + 1) 26 args h = kCode env (evCall env L n) L h.length [] (false :: true :: true :: false :: false :: false :: true :: true :: false :: false :: false :: false :: false :: false :: false :: false :: false :: false :: false :: false :: false :: false :: false :: false :: true :: true :: true :: false :: false :: false :: false :: false :: false :: false :: false :: false :: false :: false :: false :: []) lp_i_SwapAlphabet S_i_SwapAlphabet (args ++ List.replicate (Tryd.f26.ntmps - args.length) (.d .undef)) h (kFin env.P h.length false [.tmp 6]) :=
  fn_eq2 (mode := 1) (by kernel_rfl) Tryd.func26 (by kernel_rfl) (by kernel_rfl) dr_i_SwapAlphabet (by kernel_rfl) (by kernel_rfl)
noncomputable def S_i_SwapAlphabet_0 : SC := slimL Tryd.f26 0
theorem step_i_SwapAlphabet_0 {R : Type} {call : CallF} {L nf n : Nat} {thaw : List Nat} {live m : List Bool} {s : List A} {h : H} {k : Exit → List A → H → Option R} : kLoop env call L nf thaw live (lp_i_SwapAlphabet 0) m (n + 1) s h k = kCode env call L nf thaw live lp_i_SwapAlphabet S_i_SwapAlphabet_0 s h (kNext env call L nf thaw live (lp_i_SwapAlphabet 0) m n k) :=
  kLoop_step dr_i_SwapAlphabet (by kernel_rfl)

/-! i_swapped -/
noncomputable def S_i_swapped : SC := slimF Tryd.f27
noncomputable def lp_i_swapped : Nat → Code := lpOf Tryd.f27
theorem dr_i_swapped : drawsOK (codeOf Tryd.f27) = true := by kernel_rfl
theorem fn_i_swapped {L n : Nat} {args : List A} {h : H} : evCall env L (n + 1) 27 args h = kCode env (evCall env L n) L h.length [] ([]) lp_i_swapped S_i_swapped (args ++ List.replicate (Tryd.f27.ntmps - args.length) (.d .undef)) h (kFin env.P h.length false [.tmp 6]) :=
  fn_eq2 (mode := 1) (by kernel_rfl) Tryd.func27 (by kernel_rfl) (by kernel_rfl) dr_i_swapped (by kernel_rfl) (by kernel_rfl)

/-! slices_SortFunc_i_Edge_i_Edge -/
theorem prim_slices_SortFunc_i_Edge_i_Edge {L n : Nat} {args : List A} {h : H} : evCall env L (n + 1) 28 args h = gSortE 29 args h := by
  have : env.prim 28 = some (gSortE 29) := by kernel_rfl
  simp only [evCall, this]
/-! i_compareEdges -/
noncomputable def S_i_compareEdges : SC := slimF Tryd.f29
noncomputable def lp_i_compareEdges : Nat → Code := lpOf Tryd.f29
theorem dr_i_compareEdges : drawsOK (codeOf Tryd.f29) = true := by kernel_rfl
theorem fn_i_compareEdges {L n : Nat} {args : List A} {h : H} : evCall env L (n + 1) 29 args h = kCode env (evCall env L n) L h.length [] ([]) lp_i_compareEdges S_i_compareEdges (args ++ List.replicate (Tryd.f29.ntmps - args.length) (.d .undef)) h (kFin env.P h.length false [.tmp 4]) :=
  fn_eq2 (mode := 1) (by kernel_rfl) Tryd.func29 (by kernel_rfl) (by kernel_rfl) dr_i_compareEdges (by kernel_rfl) (by kernel_rfl)

/-! s_SystemValid -/
noncomputable def S_s_SystemValid : SC := slimF Tryd.f30
noncomputable def lp_s_SystemValid : Nat → Code := lpOf Tryd.f30
theorem dr_s_SystemValid : drawsOK (codeOf Tryd.f30) = true := by kernel_rfl
theorem fn_s_SystemValid {L n : Nat} {args : List A} {h : H} : evCall env L (n + 1) 30 args h = kCode env (evCall env L n) L h.length [] (false :: true :: true :: true :: false :: false :: false :: false :: false :: false :: false :: false :: false :: false :: false :: false :: false :: false :: false :: false :: false :: false :: false :: false :: false :: false :: false :: false :: false :: false :: false :: false :: false :: false :: false :: false :: false :: false :: false :: false :: false :: false :: false :: false :: false :: false :: false :: false :: false :: false :: false :: false :: false :: false :: false :: []) lp_s_SystemValid S_s_SystemValid (args ++ List.replicate (Tryd.f30.ntmps - args.length) (.d .undef)) h (kFin env.P h.length false [.tmp 2]) :=
  fn_eq2 (mode := 1) (by kernel_rfl) Tryd.func30 (by kernel_rfl) (by kernel_rfl) dr_s_SystemValid (by kernel_rfl) (by kernel_rfl)
noncomputable def S_s_SystemValid_0 : SC := slimL Tryd.f30 0
theorem step_s_SystemValid_0 {R : Type} {call : CallF} {L nf n : Nat} {thaw : List Nat} {live m : List Bool} {s : List A} {h : H} {k : Exit → List A → H → Option R} : kLoop env call L nf thaw live (lp_s_SystemValid 0) m (n + 1) s h k = kCode env call L nf thaw live lp_s_SystemValid S_s_SystemValid_0 s h (kNext env call L nf thaw live (lp_s_SystemValid 0) m n k) :=
  kLoop_step dr_s_SystemValid (by kernel_rfl)

/-! s_l17Letter -/
noncomputable def S_s_l17Letter : SC := slimF Tryd.f31
noncomputable def lp_s_l17Letter : Nat → Code := lpOf Tryd.f31
theorem dr_s_l17Letter : drawsOK (codeOf Tryd.f31) = true := by kernel_rfl
theorem fn_s_l17Letter {L n : Nat} {args : List A} {h : H} : evCall env L (n + 1) 31 args h = kCode env (evCall env L n) L h.length [] ([]) lp_s_l17Letter S_s_l17Letter (args ++ List.replicate (Tryd.f31.ntmps - args.length) (.d .undef)) h (kFin env.P h.length false [.tmp 2]) :=
  fn_eq2 (mode := 1) (by kernel_rfl) Tryd.func31 (by kernel_rfl) (by kernel_rfl) dr_s_l17Letter (by kernel_rfl) (by kernel_rfl)

/-! s_l17Swap -/
noncomputable def S_s_l17Swap : SC := slimF Tryd.f32
noncomputable def lp_s_l17Swap : Nat → Code := lpOf Tryd.f32
theorem dr_s_l17Swap : drawsOK (codeOf Tryd.f32) = true := by kernel_rfl
theorem fn_s_l17Swap {L n : Nat} {args : List A} {h : H} : evCall env L (n + 1) 32 args h = kCode env (evCall env L n) L h.length [] ([]) lp_s_l17Swap S_s_l17Swap (args ++ List.replicate (Tryd.f32.ntmps - args.length) (.d .undef)) h (kFin env.P h.length false [.tmp 6]) :=
  fn_eq2 (mode := 1) (by kernel_rfl) Tryd.func32 (by kernel_rfl) (by kernel_rfl) dr_s_l17Swap (by kernel_rfl) (by kernel_rfl)

/-! s_SwapAlphabet -/
noncomputable def S_s_SwapAlphabet : SC := slimF Tryd.f33
noncomputable def lp_s_SwapAlphabet : Nat → Code := lpOf Tryd.f33
theorem dr_s_SwapAlphabet : drawsOK (codeOf Tryd.f33) = true := by kernel_rfl
theorem fn_s_SwapAlphabet {L n : Nat} {args : List A} {h : H} : evCall env L (n + 1) 33 args h = kCode env (evCall env L n) L h.length [] (true :: true :: true :: false :: false :: false :: true :: true :: true :: false :: false :: false :: false :: false :: false :: false :: false :: false :: false :: false :: false :: false :: false :: false :: false :: false :: false :: false :: false :: false :: false :: false :: false :: false :: false :: false :: false :: []) lp_s_SwapAlphabet S_s_SwapAlphabet (args ++ List.replicate (Tryd.f33.ntmps - args.length) (.d .undef)) h (kFin env.P h.length false [.tmp 6]) :=
  fn_eq2 (mode := 1) (by kernel_rfl) Tryd.func33 (by kernel_rfl) (by kernel_rfl) dr_s_SwapAlphabet (by kernel_rfl) (by kernel_rfl)
noncomputable def S_s_SwapAlphabet_0 : SC := slimL Tryd.f33 0
theorem step_s_SwapAlphabet_0 {R : Type} {call : CallF} {L nf n : Nat} {thaw : List Nat} {live m : List Bool} {s : List A} {h : H} {k : Exit → List A → H → Option R} : kLoop env call L nf thaw live (lp_s_SwapAlphabet 0) m (n + 1) s h k = kCode env call L nf thaw live lp_s_SwapAlphabet S_s_SwapAlphabet_0 s h (kNext env call L nf thaw live (lp_s_SwapAlphabet 0) m n k) :=
  kLoop_step dr_s_SwapAlphabet (by kernel_rfl)

/-! s_l17Sorted -/
noncomputable def S_s_l17Sorted : SC := slimF Tryd.f34
noncomputable def lp_s_l17Sorted : Nat → Code := lpOf Tryd.f34
theorem dr_s_l17Sorted : drawsOK (codeOf Tryd.f34) = true := by kernel_rfl
theorem fn_s_l17Sorted {L n : Nat} {args : List A} {h : H} : evCall env L (n + 1) 34 args h = kCode env (evCall env L n) L h.length [] (true :: false :: true :: true :: true :: true :: false :: false :: false :: false :: false :: false :: false :: false :: false :: false :: false :: false :: false :: false :: false :: false :: false :: false :: false :: false :: false :: false :: false :: false :: false :: false :: false :: false :: false :: false :: false :: false :: false :: false :: false :: false :: false :: false :: false :: false :: false :: false :: []) lp_s_l17Sorted S_s_l17Sorted (args ++ List.replicate (Tryd.f34.ntmps - args.length) (.d .undef)) h (kFin env.P h.length false [.tmp 2]) :=
  fn_eq2 (mode := 2) (by kernel_rfl) Tryd.func34 (by kernel_rfl) (by kernel_rfl) dr_s_l17Sorted (by kernel_rfl) (by kernel_rfl)
noncomputable def S_s_l17Sorted_0 : SC := slimL Tryd.f34 0
theorem step_s_l17Sorted_0 {R : Type} {call : CallF} {L nf n : Nat} {thaw : List Nat} {live m : List Bool} {s : List A} {h : H} {k : Exit → List A → H → Option R} : kLoop env call L nf thaw live (lp_s_l17Sorted 0) m (n + 1) s h k = kCode env call L nf thaw live lp_s_l17Sorted S_s_l17Sorted_0 s h (kNext env call L nf thaw live (lp_s_l17Sorted 0) m n k) :=
  kLoop_step dr_s_l17Sorted (by kernel_rfl)
noncomputable def S_s_l17Sorted_1 : SC := slimL Tryd.f34 1
theorem step_s_l17Sorted_1 {R : Type} {call : CallF} {L nf n : Nat} {thaw : List Nat} {live m : List Bool} {s : List A} {h : H} {k : Exit → List A → H → Option R} : kLoop env call L nf thaw live (lp_s_l17Sorted 1) m (n + 1) s h k = kCode env call L nf thaw live lp_s_l17Sorted S_s_l17Sorted_1 s h (kNext env call L nf thaw live (lp_s_l17Sorted 1) m n k) :=
  kLoop_step dr_s_l17Sorted (by kernel_rfl)

/-! i_isAlphabet -/
noncomputable def S_i_isAlphabet : SC := slimF Tryd.f35
noncomputable def lp_i_isAlphabet : Nat → Code := lpOf Tryd.f35
theorem dr_i_isAlphabet : drawsOK (codeOf Tryd.f35) = true := by kernel_rfl
theorem fn_i_isAlphabet {L n : Nat} {args : List A} {h : H} : evCall env L (n + 1) 35 args h = kCode env (evCall env L n) L h.length [] ([]) lp_i_isAlphabet S_i_isAlphabet (args ++ List.replicate (Tryd.f35.ntmps - args.length) (.d .undef)) h (kFin env.P h.length false [.tmp 2]) :=
  fn_eq2 (mode := 1) (by kernel_rfl) Tryd.func35 (by kernel_rfl) (by kernel_rfl) dr_i_isAlphabet (by kernel_rfl) (by kernel_rfl)

/-! i_lettersOf -/
noncomputable def S_i_lettersOf : SC := slimF Tryd.f36
noncomputable def lp_i_lettersOf : Nat → Code := lpOf Tryd.f36
theorem dr_i_lettersOf : drawsOK (codeOf Tryd.f36) = true := by kernel_rfl
theorem fn_i_lettersOf {L n : Nat} {args : List A} {h : H} : evCall env L (n + 1) 36 args h = kCode env (evCall env L n) L h.length [0, 0, 0, 2] (true :: false :: true :: true :: false :: true :: false :: false :: false :: false :: false :: false :: false :: false :: false :: false :: false :: []) lp_i_lettersOf S_i_lettersOf (args ++ List.replicate (Tryd.f36.ntmps - args.length) (.d .undef)) h (kFin env.P h.length false [.tmp 2]) :=
  fn_eq2 (mode := 2) (by kernel_rfl) Tryd.func36 (by kernel_rfl) (by kernel_rfl) dr_i_lettersOf (by kernel_rfl) (by kernel_rfl)
noncomputable def S_i_lettersOf_0 : SC := slimL Tryd.f36 0
theorem step_i_lettersOf_0 {R : Type} {call : CallF} {L nf n : Nat} {thaw : List Nat} {live m : List Bool} {s : List A} {h : H} {k : Exit → List A → H → Option R} : kLoop env call L nf thaw live (lp_i_lettersOf 0) m (n + 1) s h k = kCode env call L nf thaw live lp_i_lettersOf S_i_lettersOf_0 s h (kNext env call L nf thaw live (lp_i_lettersOf 0) m n k) :=
  kLoop_step dr_i_lettersOf (by kernel_rfl)

/-! i_letterByte -/
noncomputable def S_i_letterByte : SC := slimF Tryd.f37
noncomputable def lp_i_letterByte : Nat → Code := lpOf Tryd.f37
theorem dr_i_letterByte : drawsOK (codeOf Tryd.f37) = true := by kernel_rfl
theorem fn_i_letterByte {L n : Nat} {args : List A} {h : H} : evCall env L (n + 1) 37 args h = kCode env (evCall env L n) L h.length [] ([]) lp_i_letterByte S_i_letterByte (args ++ List.replicate (Tryd.f37.ntmps - args.length) (.d .undef)) h (kFin env.P h.length false [.tmp 2]) :=
  fn_eq2 (mode := 1) (by kernel_rfl) Tryd.func37 (by kernel_rfl) (by kernel_rfl) dr_i_letterByte (by kernel_rfl) (by kernel_rfl)

/-! slices_Reverse_byte_byte -/
noncomputable def S_slices_Reverse_byte_byte : SC := slimF Tryd.f38
noncomputable def lp_slices_Reverse_byte_byte : Nat → Code := lpOf Tryd.f38
theorem dr_slices_Reverse_byte_byte : drawsOK (codeOf Tryd.f38) = true := by kernel_rfl
theorem fn_slices_Reverse_byte_byte {L n : Nat} {args : List A} {h : H} : evCall env L (n + 1) 38 args h = kCode env (evCall env L n) L h.length [] (true :: false :: true :: true :: false :: false :: false :: false :: false :: false :: false :: false :: false :: false :: false :: false :: false :: false :: false :: false :: false :: false :: false :: false :: false :: false :: false :: false :: []) lp_slices_Reverse_byte_byte S_slices_Reverse_byte_byte (args ++ List.replicate (Tryd.f38.ntmps - args.length) (.d .undef)) h (kFin env.P h.length false []) :=
  fn_eq2 (mode := 0) (by kernel_rfl) Tryd.func38 (by kernel_rfl) (by kernel_rfl) dr_slices_Reverse_byte_byte (by kernel_rfl) (by kernel_rfl)
noncomputable def S_slices_Reverse_byte_byte_0 : SC := slimL Tryd.f38 0
theorem step_slices_Reverse_byte_byte_0 {R : Type} {call : CallF} {L nf n : Nat} {thaw : List Nat} {live m : List Bool} {s : List A} {h : H} {k : Exit → List A → H → Option R} : kLoop env call L nf thaw live (lp_slices_Reverse_byte_byte 0) m (n + 1) s h k = kCode env call L nf thaw live lp_slices_Reverse_byte_byte S_slices_Reverse_byte_byte_0 s h (kNext env call L nf thaw live (lp_slices_Reverse_byte_byte 0) m n k) :=
  kLoop_step dr_slices_Reverse_byte_byte (by kernel_rfl)

/-! i_WordWithin -/
noncomputable def S_i_WordWithin : SC := slimF Tryd.f39
noncomputable def lp_i_WordWithin : Nat → Code := lpOf Tryd.f39
theorem dr_i_WordWithin : drawsOK (codeOf Tryd.f39) = true := by kernel_rfl
theorem fn_i_WordWithin {L n : Nat} {args : List A} {h : H} : evCall env L (n + 1) 39 args h = kCode env (evCall env L n) L h.length [] (true :: true :: false :: false :: true :: false :: false :: false :: false :: false :: false :: false :: false :: false :: false :: true :: true :: false :: false :: false :: false :: false :: false :: false :: false :: false :: []) lp_i_WordWithin S_i_WordWithin (args ++ List.replicate (Tryd.f39.ntmps - args.length) (.d .undef)) h (kFin env.P h.length false [.tmp 4]) :=
  fn_eq2 (mode := 1) (by kernel_rfl) Tryd.func39 (by kernel_rfl) (by kernel_rfl) dr_i_WordWithin (by kernel_rfl) (by kernel_rfl)
noncomputable def S_i_WordWithin_0 : SC := slimL Tryd.f39 0
theorem step_i_WordWithin_0 {R : Type} {call : CallF} {L nf n : Nat} {thaw : List Nat} {live m : List Bool} {s : List A} {h : H} {k : Exit → List A → H → Option R} : kLoop env call L nf thaw live (lp_i_WordWithin 0) m (n + 1) s h k = kCode env call L nf thaw live lp_i_WordWithin S_i_WordWithin_0 s h (kNext env call L nf thaw live (lp_i_WordWithin 0) m n k) :=
  kLoop_step dr_i_WordWithin (by kernel_rfl)

/-! i_movesOf -/
noncomputable def S_i_movesOf : SC := slimF Tryd.f40
noncomputable def lp_i_movesOf : Nat → Code := lpOf Tryd.f40
theorem dr_i_movesOf : drawsOK (codeOf Tryd.f40) = true := by kernel_rfl
theorem fn_i_movesOf {L n : Nat} {args : List A} {h : H} : evCall env L (n + 1) 40 args h = kCode env (evCall env L n) L h.length [] (false :: false :: true :: true :: false :: false :: false :: false :: true :: true :: true :: false :: false :: false :: false :: false :: false :: false :: false :: false :: false :: false :: false :: false :: false :: false :: false :: false :: false :: false :: false :: false :: []) lp_i_movesOf S_i_movesOf (args ++ List.replicate (Tryd.f40.ntmps - args.length) (.d .undef)) h (kFin env.P h.length false [.tmp 2]) :=
  fn_eq2 (mode := 2) (by kernel_rfl) Tryd.func40 (by kernel_rfl) (by kernel_rfl) dr_i_movesOf (by kernel_rfl) (by kernel_rfl)
noncomputable def S_i_movesOf_0 : SC := slimL Tryd.f40 0
theorem step_i_movesOf_0 {R : Type} {call : CallF} {L nf n : Nat} {thaw : List Nat} {live m : List Bool} {s : List A} {h : H} {k : Exit → List A → H → Option R} : kLoop env call L nf thaw live (lp_i_movesOf 0) m (n + 1) s h k = kCode env call L nf thaw live lp_i_movesOf S_i_movesOf_0 s h (kNext env call L nf thaw live (lp_i_movesOf 0) m n k) :=
  kLoop_step dr_i_movesOf (by kernel_rfl)

/-! i_moves_step -/
noncomputable def S_i_moves_step : SC := slimF Tryd.f41
noncomputable def lp_i_moves_step : Nat → Code := lpOf Tryd.f41
theorem dr_i_moves_step : drawsOK (codeOf Tryd.f41) = true := by kernel_rfl
theorem fn_i_moves_step {L n : Nat} {args : List A} {h : H} : evCall env L (n + 1) 41 args h = kCode env (evCall env L n) L h.length [] (true :: true :: true :: false :: false :: false :: true :: true :: false :: false :: false :: false :: false :: false :: false :: false :: false :: false :: false :: false :: false :: false :: false :: false :: false :: false :: []) lp_i_moves_step S_i_moves_step (args ++ List.replicate (Tryd.f41.ntmps - args.length) (.d .undef)) h (kFin env.P h.length false [.tmp 6]) :=
  fn_eq2 (mode := 1) (by kernel_rfl) Tryd.func41 (by kernel_rfl) (by kernel_rfl) dr_i_moves_step (by kernel_rfl) (by kernel_rfl)
noncomputable def S_i_moves_step_0 : SC := slimL Tryd.f41 0
theorem step_i_moves_step_0 {R : Type} {call : CallF} {L nf n : Nat} {thaw : List Nat} {live m : List Bool} {s : List A} {h : H} {k : Exit → List A → H → Option R} : kLoop env call L nf thaw live (lp_i_moves_step 0) m (n + 1) s h k = kCode env call L nf thaw live lp_i_moves_step S_i_moves_step_0 s h (kNext env call L nf thaw live (lp_i_moves_step 0) m n k) :=
  kLoop_step dr_i_moves_step (by kernel_rfl)

/-! i_letterAt -/
noncomputable def S_i_letterAt : SC := slimF Tryd.f42
noncomputable def lp_i_letterAt : Nat → Code := lpOf Tryd.f42
theorem dr_i_letterAt : drawsOK (codeOf Tryd.f42) = true := by kernel_rfl
theorem fn_i_letterAt {L n : Nat} {args : List A} {h : H} : evCall env L (n + 1) 42 args h = kCode env (evCall env L n) L h.length [] ([]) lp_i_letterAt S_i_letterAt (args ++ List.replicate (Tryd.f42.ntmps - args.length) (.d .undef)) h (kFin env.P h.length false [.tmp 4]) :=
  fn_eq2 (mode := 1) (by kernel_rfl) Tryd.func42 (by kernel_rfl) (by kernel_rfl) dr_i_letterAt (by kernel_rfl) (by kernel_rfl)

/-! i_WordValid -/
noncomputable def S_i_WordValid : SC := slimF Tryd.f43
noncomputable def lp_i_WordValid : Nat → Code := lpOf Tryd.f43
theorem dr_i_WordValid : drawsOK (codeOf Tryd.f43) = true := by kernel_rfl
theorem fn_i_WordValid {L n : Nat} {args : List A} {h : H} : evCall env L (n + 1) 43 args h = kCode env (evCall env L n) L h.length [] ([]) lp_i_WordValid S_i_WordValid (args ++ List.replicate (Tryd.f43.ntmps - args.length) (.d .undef)) h (kFin env.P h.length false [.tmp 2]) :=
  fn_eq2 (mode := 1) (by kernel_rfl) Tryd.func43 (by kernel_rfl) (by kernel_rfl) dr_i_WordValid (by kernel_rfl) (by kernel_rfl)

/-! i_isState -/
noncomputable def S_i_isState : SC := slimF Tryd.f44
noncomputable def lp_i_isState : Nat → Code := lpOf Tryd.f44
theorem dr_i_isState : drawsOK (codeOf Tryd.f44) = true := by kernel_rfl
theorem fn_i_isState {L n : Nat} {args : List A} {h : H} : evCall env L (n + 1) 44 args h = kCode env (evCall env L n) L h.length [] ([]) lp_i_isState S_i_isState (args ++ List.replicate (Tryd.f44.ntmps - args.length) (.d .undef)) h (kFin env.P h.length false [.tmp 4]) :=
  fn_eq2 (mode := 1) (by kernel_rfl) Tryd.func44 (by kernel_rfl) (by kernel_rfl) dr_i_isState (by kernel_rfl) (by kernel_rfl)

/-! i_has -/
noncomputable def S_i_has : SC := slimF Tryd.f45
noncomputable def lp_i_has : Nat → Code := lpOf Tryd.f45
theorem dr_i_has : drawsOK (codeOf Tryd.f45) = true := by kernel_rfl
theorem fn_i_has {L n : Nat} {args : List A} {h : H} : evCall env L (n + 1) 45 args h = kCode env (evCall env L n) L h.length [] ([]) lp_i_has S_i_has (args ++ List.replicate (Tryd.f45.ntmps - args.length) (.d .undef)) h (kFin env.P h.length false [.tmp 4]) :=
  fn_eq2 (mode := 1) (by kernel_rfl) Tryd.func45 (by kernel_rfl) (by kernel_rfl) dr_i_has (by kernel_rfl) (by kernel_rfl)

/-! s_l2Edge -/
noncomputable def S_s_l2Edge : SC := slimF Tryd.f50
noncomputable def lp_s_l2Edge : Nat → Code := lpOf Tryd.f50
theorem dr_s_l2Edge : drawsOK (codeOf Tryd.f50) = true := by kernel_rfl
theorem fn_s_l2Edge {L n : Nat} {args : List A} {h : H} : evCall env L (n + 1) 50 args h = kCode env (evCall env L n) L h.length [] ([]) lp_s_l2Edge S_s_l2Edge (args ++ List.replicate (Tryd.f50.ntmps - args.length) (.d .undef)) h (kFin env.P h.length false [.tmp 6]) :=
  fn_eq2 (mode := 1) (by kernel_rfl) Tryd.func50 (by kernel_rfl) (by kernel_rfl) dr_s_l2Edge (by kernel_rfl) (by kernel_rfl)

/-! s_l19Rd_pick -/
noncomputable def S_s_l19Rd_pick : SC := slimF Tryd.f57
noncomputable def lp_s_l19Rd_pick : Nat → Code := lpOf Tryd.f57
theorem dr_s_l19Rd_pick : drawsOK (codeOf Tryd.f57) = true := by kernel_rfl
theorem fn_s_l19Rd_pick {L n : Nat} {args : List A} {h : H} : evCall env L (n + 1) 57 args h = kCode env (evCall env L n) L h.length [] ([]) lp_s_l19Rd_pick S_s_l19Rd_pick (args ++ List.replicate (Tryd.f57.ntmps - args.length) (.d .undef)) h (kFin env.P h.length false [.tmp 4]) :=
  fn_eq2 (mode := 0) (by kernel_rfl) Tryd.func57 (by kernel_rfl) (by kernel_rfl) dr_s_l19Rd_pick (by kernel_rfl) (by kernel_rfl)

/-! s_l2Big -/
noncomputable def S_s_l2Big : SC := slimF Tryd.f58
noncomputable def lp_s_l2Big : Nat → Code := lpOf Tryd.f58
theorem dr_s_l2Big : drawsOK (codeOf Tryd.f58) = true := by kernel_rfl
theorem fn_s_l2Big {L n : Nat} {args : List A} {h : H} : evCall env L (n + 1) 58 args h = kCode env (evCall env L n) L h.length [] (true :: false :: true :: true :: true :: false :: false :: false :: false :: false :: false :: false :: false :: false :: false :: false :: false :: false :: false :: false :: false :: false :: false :: false :: false :: false :: false :: false :: false :: false :: false :: false :: false :: false :: false :: false :: false :: false :: false :: []) lp_s_l2Big S_s_l2Big (args ++ List.replicate (Tryd.f58.ntmps - args.length) (.d .undef)) h (kFin env.P h.length false Tryd.f58.results.toList) :=
  fn_eq2 (mode := 0) (by kernel_rfl) Tryd.func58 (by kernel_rfl) (by kernel_rfl) dr_s_l2Big (by kernel_rfl) (by kernel_rfl)
noncomputable def S_s_l2Big_0 : SC := slimL Tryd.f58 0
theorem step_s_l2Big_0 {R : Type} {call : CallF} {L nf n : Nat} {thaw : List Nat} {live m : List Bool} {s : List A} {h : H} {k : Exit → List A → H → Option R} : kLoop env call L nf thaw live (lp_s_l2Big 0) m (n + 1) s h k = kCode env call L nf thaw live lp_s_l2Big S_s_l2Big_0 s h (kNext env call L nf thaw live (lp_s_l2Big 0) m n k) :=
  kLoop_step dr_s_l2Big (by kernel_rfl)

/-! s_l2Wrong -/
noncomputable def S_s_l2Wrong : SC := slimF Tryd.f59
noncomputable def lp_s_l2Wrong : Nat → Code := lpOf Tryd.f59
theorem dr_s_l2Wrong : drawsOK (codeOf Tryd.f59) = true := by kernel_rfl
theorem fn_s_l2Wrong {L n : Nat} {args : List A} {h : H} : evCall env L (n + 1) 59 args h = kCode env (evCall env L n) L h.length [] ([]) lp_s_l2Wrong S_s_l2Wrong (args ++ List.replicate (Tryd.f59.ntmps - args.length) (.d .undef)) h (kFin env.P h.length false Tryd.f59.results.toList) :=
  fn_eq2 (mode := 0) (by kernel_rfl) Tryd.func59 (by kernel_rfl) (by kernel_rfl) dr_s_l2Wrong (by kernel_rfl) (by kernel_rfl)

/-! s_l2Draw -/
noncomputable def S_s_l2Draw : SC := slimF Tryd.f60
noncomputable def lp_s_l2Draw : Nat → Code := lpOf Tryd.f60
theorem dr_s_l2Draw : drawsOK (codeOf Tryd.f60) = true := by kernel_rfl
theorem fn_s_l2Draw {L n : Nat} {args : List A} {h : H} : evCall env L (n + 1) 60 args h = kCode env (evCall env L n) L h.length [] ([]) lp_s_l2Draw S_s_l2Draw (args ++ List.replicate (Tryd.f60.ntmps - args.length) (.d .undef)) h (kFin env.P h.length false Tryd.f60.results.toList) :=
  fn_eq2 (mode := 0) (by kernel_rfl) Tryd.func60 (by kernel_rfl) (by kernel_rfl) dr_s_l2Draw (by kernel_rfl) (by kernel_rfl)

/-! s_l19Rd_num -/
noncomputable def S_s_l19Rd_num : SC := slimF Tryd.f61
noncomputable def lp_s_l19Rd_num : Nat → Code := lpOf Tryd.f61
theorem dr_s_l19Rd_num : drawsOK (codeOf Tryd.f61) = true := by kernel_rfl
theorem fn_s_l19Rd_num {L n : Nat} {args : List A} {h : H} : evCall env L (n + 1) 61 args h = kCode env (evCall env L n) L h.length [] ([]) lp_s_l19Rd_num S_s_l19Rd_num (args ++ List.replicate (Tryd.f61.ntmps - args.length) (.d .undef)) h (kFin env.P h.length false [.tmp 4]) :=
  fn_eq2 (mode := 0) (by kernel_rfl) Tryd.func61 (by kernel_rfl) (by kernel_rfl) dr_s_l19Rd_num (by kernel_rfl) (by kernel_rfl)

/-! slices_pdqsortCmpFunc_i_Edge -/
/-! math_bits_Len -/
/-! cmp_Or_int -/
noncomputable def S_cmp_Or_int : SC := slimF Tryd.f64
noncomputable def lp_cmp_Or_int : Nat → Code := lpOf Tryd.f64
theorem dr_cmp_Or_int : drawsOK (codeOf Tryd.f64) = true := by kernel_rfl
theorem fn_cmp_Or_int {L n : Nat} {args : List A} {h : H} : evCall env L (n + 1) 64 args h = kCode env (evCall env L n) L h.length [] (false :: false :: true :: true :: false :: false :: true :: true :: true :: false :: false :: false :: false :: false :: false :: false :: false :: false :: []) lp_cmp_Or_int S_cmp_Or_int (args ++ List.replicate (Tryd.f64.ntmps - args.length) (.d .undef)) h (kFin env.P h.length false [.tmp 2]) :=
  fn_eq2 (mode := 1) (by kernel_rfl) Tryd.func64 (by kernel_rfl) (by kernel_rfl) dr_cmp_Or_int (by kernel_rfl) (by kernel_rfl)
noncomputable def S_cmp_Or_int_0 : SC := slimL Tryd.f64 0
theorem step_cmp_Or_int_0 {R : Type} {call : CallF} {L nf n : Nat} {thaw : List Nat} {live m : List Bool} {s : List A} {h : H} {k : Exit → List A → H → Option R} : kLoop env call L nf thaw live (lp_cmp_Or_int 0) m (n + 1) s h k = kCode env call L nf thaw live lp_cmp_Or_int S_cmp_Or_int_0 s h (kNext env call L nf thaw live (lp_cmp_Or_int 0) m n k) :=
  kLoop_step dr_cmp_Or_int (by kernel_rfl)

/-! cmp_Compare_int -/
noncomputable def S_cmp_Compare_int : SC := slimF Tryd.f65
noncomputable def lp_cmp_Compare_int : Nat → Code := lpOf Tryd.f65
theorem dr_cmp_Compare_int : drawsOK (codeOf Tryd.f65) = true := by kernel_rfl
theorem fn_cmp_Compare_int {L n : Nat} {args : List A} {h : H} : evCall env L (n + 1) 65 args h = kCode env (evCall env L n) L h.length [] ([]) lp_cmp_Compare_int S_cmp_Compare_int (args ++ List.replicate (Tryd.f65.ntmps - args.length) (.d .undef)) h (kFin env.P h.length false [.tmp 4]) :=
  fn_eq2 (mode := 1) (by kernel_rfl) Tryd.func65 (by kernel_rfl) (by kernel_rfl) dr_cmp_Compare_int (by kernel_rfl) (by kernel_rfl)

/-! s_l1Alphabet -/
noncomputable def S_s_l1Alphabet : SC := slimF Tryd.f66
noncomputable def lp_s_l1Alphabet : Nat → Code := lpOf Tryd.f66
theorem dr_s_l1Alphabet : drawsOK (codeOf Tryd.f66) = true := by kernel_rfl
theorem fn_s_l1Alphabet {L n : Nat} {args : List A} {h : H} : evCall env L (n + 1) 66 args h = kCode env (evCall env L n) L h.length [] ([]) lp_s_l1Alphabet S_s_l1Alphabet (args ++ List.replicate (Tryd.f66.ntmps - args.length) (.d .undef)) h (kFin env.P h.length false [.tmp 2]) :=
  fn_eq2 (mode := 1) (by kernel_rfl) Tryd.func66 (by kernel_rfl) (by kernel_rfl) dr_s_l1Alphabet (by kernel_rfl) (by kernel_rfl)

/-! s_l2Before -/
noncomputable def S_s_l2Before : SC := slimF Tryd.f67
noncomputable def lp_s_l2Before : Nat → Code := lpOf Tryd.f67
theorem dr_s_l2Before : drawsOK (codeOf Tryd.f67) = true := by kernel_rfl
theorem fn_s_l2Before {L n : Nat} {args : List A} {h : H} : evCall env L (n + 1) 67 args h = kCode env (evCall env L n) L h.length [] ([]) lp_s_l2Before S_s_l2Before (args ++ List.replicate (Tryd.f67.ntmps - args.length) (.d .undef)) h (kFin env.P h.length false [.tmp 4]) :=
  fn_eq2 (mode := 1) (by kernel_rfl) Tryd.func67 (by kernel_rfl) (by kernel_rfl) dr_s_l2Before (by kernel_rfl) (by kernel_rfl)

/-! s_l1Has -/
noncomputable def S_s_l1Has : SC := slimF Tryd.f68
noncomputable def lp_s_l1Has : Nat → Code := lpOf Tryd.f68
theorem dr_s_l1Has : drawsOK (codeOf Tryd.f68) = true := by kernel_rfl
theorem fn_s_l1Has {L n : Nat} {args : List A} {h : H} : evCall env L (n + 1) 68 args h = kCode env (evCall env L n) L h.length [] ([]) lp_s_l1Has S_s_l1Has (args ++ List.replicate (Tryd.f68.ntmps - args.length) (.d .undef)) h (kFin env.P h.length false [.tmp 4]) :=
  fn_eq2 (mode := 1) (by kernel_rfl) Tryd.func68 (by kernel_rfl) (by kernel_rfl) dr_s_l1Has (by kernel_rfl) (by kernel_rfl)

/-! s_l1Bit -/
noncomputable def S_s_l1Bit : SC := slimF Tryd.f69
noncomputable def lp_s_l1Bit : Nat → Code := lpOf Tryd.f69
theorem dr_s_l1Bit : drawsOK (codeOf Tryd.f69) = true := by kernel_rfl
theorem fn_s_l1Bit {L n : Nat} {args : List A} {h : H} : evCall env L (n + 1) 69 args h = kCode env (evCall env L n) L h.length [] ([]) lp_s_l1Bit S_s_l1Bit (args ++ List.replicate (Tryd.f69.ntmps - args.length) (.d .undef)) h (kFin env.P h.length false [.tmp 2]) :=
  fn_eq2 (mode := 1) (by kernel_rfl) Tryd.func69 (by kernel_rfl) (by kernel_rfl) dr_s_l1Bit (by kernel_rfl) (by kernel_rfl)

/-! math_bits_TrailingZeros -/
theorem prim_math_bits_TrailingZeros {L n : Nat} {args : List A} {h : H} : evCall env L (n + 1) 70 args h = gCtz args h := by
  have : env.prim 70 = some (gCtz) := by kernel_rfl
  simp only [evCall, this]
/-! s_ParseSystem -/
/-! s_l19Rd_of -/
noncomputable def S_s_l19Rd_of : SC := slimF Tryd.f79
noncomputable def lp_s_l19Rd_of : Nat → Code := lpOf Tryd.f79
theorem dr_s_l19Rd_of : drawsOK (codeOf Tryd.f79) = true := by kernel_rfl
theorem fn_s_l19Rd_of {L n : Nat} {args : List A} {h : H} : evCall env L (n + 1) 79 args h = kCode env (evCall env L n) L h.length [] ([]) lp_s_l19Rd_of S_s_l19Rd_of (args ++ List.replicate (Tryd.f79.ntmps - args.length) (.d .undef)) h (kFin env.P h.length false [.tmp 4]) :=
  fn_eq2 (mode := 0) (by kernel_rfl) Tryd.func79 (by kernel_rfl) (by kernel_rfl) dr_s_l19Rd_of (by kernel_rfl) (by kernel_rfl)

/-! s_l2Texts -/
/-! s_l2Random -/
noncomputable def S_s_l2Random : SC := slimF Tryd.f81
noncomputable def lp_s_l2Random : Nat → Code := lpOf Tryd.f81
theorem dr_s_l2Random : drawsOK (codeOf Tryd.f81) = true := by kernel_rfl
theorem fn_s_l2Random {L n : Nat} {args : List A} {h : H} : evCall env L (n + 1) 81 args h = kCode env (evCall env L n) L h.length [] (true :: false :: true :: true :: false :: false :: false :: false :: true :: true :: true :: true :: true :: true :: false :: false :: false :: false :: false :: false :: false :: false :: false :: false :: false :: false :: false :: false :: false :: false :: false :: false :: false :: false :: false :: false :: false :: false :: false :: false :: false :: false :: false :: false :: false :: false :: false :: false :: false :: false :: false :: false :: []) lp_s_l2Random S_s_l2Random (args ++ List.replicate (Tryd.f81.ntmps - args.length) (.d .undef)) h (kFin env.P h.length false Tryd.f81.results.toList) :=
  fn_eq2 (mode := 0) (by kernel_rfl) Tryd.func81 (by kernel_rfl) (by kernel_rfl) dr_s_l2Random (by kernel_rfl) (by kernel_rfl)
noncomputable def S_s_l2Random_0 : SC := slimL Tryd.f81 0
theorem step_s_l2Random_0 {R : Type} {call : CallF} {L nf n : Nat} {thaw : List Nat} {live m : List Bool} {s : List A} {h : H} {k : Exit → List A → H → Option R} : kLoop env call L nf thaw live (lp_s_l2Random 0) m (n + 1) s h k = kCode env call L nf thaw live lp_s_l2Random S_s_l2Random_0 s h (kNext env call L nf thaw live (lp_s_l2Random 0) m n k) :=
  kLoop_step dr_s_l2Random (by kernel_rfl)
noncomputable def S_s_l2Random_1 : SC := slimL Tryd.f81 1
theorem step_s_l2Random_1 {R : Type} {call : CallF} {L nf n : Nat} {thaw : List Nat} {live m : List Bool} {s : List A} {h : H} {k : Exit → List A → H → Option R} : kLoop env call L nf thaw live (lp_s_l2Random 1) m (n + 1) s h k = kCode env call L nf thaw live lp_s_l2Random S_s_l2Random_1 s h (kNext env call L nf thaw live (lp_s_l2Random 1) m n k) :=
  kLoop_step dr_s_l2Random (by kernel_rfl)
noncomputable def S_s_l2Random_2 : SC := slimL Tryd.f81 2
theorem step_s_l2Random_2 {R : Type} {call : CallF} {L nf n : Nat} {thaw : List Nat} {live m : List Bool} {s : List A} {h : H} {k : Exit → List A → H → Option R} : kLoop env call L nf thaw live (lp_s_l2Random 2) m (n + 1) s h k = kCode env call L nf thaw live lp_s_l2Random S_s_l2Random_2 s h (kNext env call L nf thaw live (lp_s_l2Random 2) m n k) :=
  kLoop_step dr_s_l2Random (by kernel_rfl)

/-! slices_insertionSortCmpFunc_i_Edge -/
/-! slices_heapSortCmpFunc_i_Edge -/
/-! slices_breakPatternsCmpFunc_i_Edge -/
/-! slices_choosePivotCmpFunc_i_Edge -/
/-! slices_reverseRangeCmpFunc_i_Edge -/
/-! slices_partialInsertionSortCmpFunc_i_Edge -/
/-! slices_partitionEqualCmpFunc_i_Edge -/
/-! slices_partitionCmpFunc_i_Edge -/
/-! math_bits_Len32 -/
/-! math_bits_Len64 -/
/-! cmp_isNaN_int -/
noncomputable def S_cmp_isNaN_int : SC := slimF Tryd.f92
noncomputable def lp_cmp_isNaN_int : Nat → Code := lpOf Tryd.f92
theorem dr_cmp_isNaN_int : drawsOK (codeOf Tryd.f92) = true := by kernel_rfl
theorem fn_cmp_isNaN_int {L n : Nat} {args : List A} {h : H} : evCall env L (n + 1) 92 args h = kCode env (evCall env L n) L h.length [] ([]) lp_cmp_isNaN_int S_cmp_isNaN_int (args ++ List.replicate (Tryd.f92.ntmps - args.length) (.d .undef)) h (kFin env.P h.length false [.tmp 2]) :=
  fn_eq2 (mode := 1) (by kernel_rfl) Tryd.func92 (by kernel_rfl) (by kernel_rfl) dr_cmp_isNaN_int (by kernel_rfl) (by kernel_rfl)

/-! math_bits_TrailingZeros32 -/
/-! math_bits_TrailingZeros64 -/
/-! s_l19Cut -/
/-! s_ParseAlphabet -/
/-! s_l19Num -/
/-! s_l2Parse -/
/-! s_FormatSystem -/
/-! s_l1Letters -/
noncomputable def S_s_l1Letters : SC := slimF Tryd.f103
noncomputable def lp_s_l1Letters : Nat → Code := lpOf Tryd.f103
theorem dr_s_l1Letters : drawsOK (codeOf Tryd.f103) = true := by kernel_rfl
theorem fn_s_l1Letters {L n : Nat} {args : List A} {h : H} : evCall env L (n + 1) 103 args h = kCode env (evCall env L n) L h.length [] (true :: false :: true :: true :: true :: false :: false :: false :: false :: false :: false :: false :: false :: false :: false :: false :: false :: false :: []) lp_s_l1Letters S_s_l1Letters (args ++ List.replicate (Tryd.f103.ntmps - args.length) (.d .undef)) h (kFin env.P h.length false [.tmp 2]) :=
  fn_eq2 (mode := 2) (by kernel_rfl) Tryd.func103 (by kernel_rfl) (by kernel_rfl) dr_s_l1Letters (by kernel_rfl) (by kernel_rfl)
noncomputable def S_s_l1Letters_0 : SC := slimL Tryd.f103 0
theorem step_s_l1Letters_0 {R : Type} {call : CallF} {L nf n : Nat} {thaw : List Nat} {live m : List Bool} {s : List A} {h : H} {k : Exit → List A → H → Option R} : kLoop env call L nf thaw live (lp_s_l1Letters 0) m (n + 1) s h k = kCode env call L nf thaw live lp_s_l1Letters S_s_l1Letters_0 s h (kNext env call L nf thaw live (lp_s_l1Letters 0) m n k) :=
  kLoop_step dr_s_l1Letters (by kernel_rfl)

/-! slices_siftDownCmpFunc_i_Edge -/
/-! slices_nextPowerOfTwo -/
/-! slices_medianAdjacentCmpFunc_i_Edge -/
/-! slices_medianCmpFunc_i_Edge -/
/-! s_FormatAlphabet -/
/-! s_l1At -/
/-! s_l19Dec -/
/-! s_l1Text -/
/-! slices_order2CmpFunc_i_Edge -/
end Ev
end Go.Proofs.YtojaohcpgelhmaaDoor
