/-
  Each function's code as an equation. Written by a program.
-/
import Derived.Test.YtojaohcpgelhmaaDoorEnv
set_option maxRecDepth 100000
namespace Go.Proofs.YtojaohcpgelhmaaDoor
namespace Ev

/-! FnAddEdge -/
noncomputable def S_FnAddEdge : SC := slimF Tryd.f4
noncomputable def lp_FnAddEdge : Nat → Code := lpOf Tryd.f4
theorem dr_FnAddEdge : drawsOK (codeOf Tryd.f4) = true := by kernel_rfl
theorem fn_FnAddEdge {L n : Nat} {args : List A} {h : H} : evCall env L (n + 1) 4 args h = kCode env (evCall env L n) L h.length [] ([]) lp_FnAddEdge S_FnAddEdge (args ++ List.replicate (Tryd.f4.ntmps - args.length) (.d .undef)) h (kFin env.P h.length false [.tmp 2]) :=
  fn_eq2 (mode := 1) (by kernel_rfl) Tryd.func4 (by kernel_rfl) (by kernel_rfl) dr_FnAddEdge (by kernel_rfl) (by kernel_rfl)

/-! agSystems -/
noncomputable def S_agSystems : SC := slimF Tryd.f9
noncomputable def lp_agSystems : Nat → Code := lpOf Tryd.f9
theorem dr_agSystems : drawsOK (codeOf Tryd.f9) = true := by kernel_rfl
theorem fn_agSystems {L n : Nat} {args : List A} {h : H} : evCall env L (n + 1) 9 args h = kCode env (evCall env L n) L h.length [] (false :: false :: true :: true :: true :: true :: false :: false :: false :: false :: false :: false :: false :: false :: false :: false :: false :: false :: false :: false :: false :: false :: false :: false :: false :: false :: false :: false :: false :: false :: false :: false :: false :: false :: false :: false :: false :: false :: false :: false :: false :: false :: false :: false :: false :: []) lp_agSystems S_agSystems (args ++ List.replicate (Tryd.f9.ntmps - args.length) (.d .undef)) h (kFin env.P h.length false [.tmp 4]) :=
  fn_eq2 (mode := 1) (by kernel_rfl) Tryd.func9 (by kernel_rfl) (by kernel_rfl) dr_agSystems (by kernel_rfl) (by kernel_rfl)
noncomputable def S_agSystems_0 : SC := slimL Tryd.f9 0
theorem step_agSystems_0 {R : Type} {call : CallF} {L nf n : Nat} {thaw : List Nat} {live m : List Bool} {s : List A} {h : H} {k : Exit → List A → H → Option R} : kLoop env call L nf thaw live (lp_agSystems 0) m (n + 1) s h k = kCode env call L nf thaw live lp_agSystems S_agSystems_0 s h (kNext env call L nf thaw live (lp_agSystems 0) m n k) :=
  kLoop_step dr_agSystems (by kernel_rfl)

/-! i_SystemValid -/
noncomputable def S_i_SystemValid : SC := slimF Tryd.f13
noncomputable def lp_i_SystemValid : Nat → Code := lpOf Tryd.f13
theorem dr_i_SystemValid : drawsOK (codeOf Tryd.f13) = true := by kernel_rfl
theorem fn_i_SystemValid {L n : Nat} {args : List A} {h : H} : evCall env L (n + 1) 13 args h = kCode env (evCall env L n) L h.length [] (false :: true :: true :: false :: false :: false :: false :: false :: false :: false :: false :: false :: false :: false :: false :: false :: false :: false :: false :: false :: true :: true :: true :: false :: false :: false :: false :: false :: false :: false :: false :: false :: false :: false :: false :: false :: false :: false :: false :: false :: false :: false :: false :: false :: false :: false :: false :: false :: false :: false :: false :: false :: false :: false :: false :: false :: false :: false :: false :: false :: false :: false :: false :: false :: false :: false :: false :: false :: []) lp_i_SystemValid S_i_SystemValid (args ++ List.replicate (Tryd.f13.ntmps - args.length) (.d .undef)) h (kFin env.P h.length false [.tmp 2]) :=
  fn_eq2 (mode := 1) (by kernel_rfl) Tryd.func13 (by kernel_rfl) (by kernel_rfl) dr_i_SystemValid (by kernel_rfl) (by kernel_rfl)
noncomputable def S_i_SystemValid_0 : SC := slimL Tryd.f13 0
theorem step_i_SystemValid_0 {R : Type} {call : CallF} {L nf n : Nat} {thaw : List Nat} {live m : List Bool} {s : List A} {h : H} {k : Exit → List A → H → Option R} : kLoop env call L nf thaw live (lp_i_SystemValid 0) m (n + 1) s h k = kCode env call L nf thaw live lp_i_SystemValid S_i_SystemValid_0 s h (kNext env call L nf thaw live (lp_i_SystemValid 0) m n k) :=
  kLoop_step dr_i_SystemValid (by kernel_rfl)

/-! s_DrawAddEdge -/
noncomputable def S_s_DrawAddEdge : SC := slimF Tryd.f14
noncomputable def lp_s_DrawAddEdge : Nat → Code := lpOf Tryd.f14
theorem dr_s_DrawAddEdge : drawsOK (codeOf Tryd.f14) = true := by kernel_rfl
theorem fn_s_DrawAddEdge {L n : Nat} {args : List A} {h : H} : evCall env L (n + 1) 14 args h = kCode env (evCall env L n) L h.length [] ([]) lp_s_DrawAddEdge S_s_DrawAddEdge (args ++ List.replicate (Tryd.f14.ntmps - args.length) (.d .undef)) h (kFin env.P h.length false Tryd.f14.results.toList) :=
  fn_eq2 (mode := 2) (by kernel_rfl) Tryd.func14 (by kernel_rfl) (by kernel_rfl) dr_s_DrawAddEdge (by kernel_rfl) (by kernel_rfl)

/-! i_AddEdge -/
noncomputable def S_i_AddEdge : SC := slimF Tryd.f15
noncomputable def lp_i_AddEdge : Nat → Code := lpOf Tryd.f15
theorem dr_i_AddEdge : drawsOK (codeOf Tryd.f15) = true := by kernel_rfl
theorem fn_i_AddEdge {L n : Nat} {args : List A} {h : H} : evCall env L (n + 1) 15 args h = kCode env (evCall env L n) L h.length [] ([]) lp_i_AddEdge S_i_AddEdge (args ++ List.replicate (Tryd.f15.ntmps - args.length) (.d .undef)) h (kFin env.P h.length true Tryd.f15.results.toList) :=
  fn_eq2 (mode := 3) (by kernel_rfl) Tryd.func15 (by kernel_rfl) (by kernel_rfl) dr_i_AddEdge (by kernel_rfl) (by kernel_rfl)

/-! s_AddEdge -/
noncomputable def S_s_AddEdge : SC := slimF Tryd.f16
noncomputable def lp_s_AddEdge : Nat → Code := lpOf Tryd.f16
theorem dr_s_AddEdge : drawsOK (codeOf Tryd.f16) = true := by kernel_rfl
theorem fn_s_AddEdge {L n : Nat} {args : List A} {h : H} : evCall env L (n + 1) 16 args h = kCode env (evCall env L n) L h.length [] ([]) lp_s_AddEdge S_s_AddEdge (args ++ List.replicate (Tryd.f16.ntmps - args.length) (.d .undef)) h (kFin env.P h.length false Tryd.f16.results.toList) :=
  fn_eq2 (mode := 2) (by kernel_rfl) Tryd.func16 (by kernel_rfl) (by kernel_rfl) dr_s_AddEdge (by kernel_rfl) (by kernel_rfl)

/-! i_DropEdge -/
noncomputable def S_i_DropEdge : SC := slimF Tryd.f17
noncomputable def lp_i_DropEdge : Nat → Code := lpOf Tryd.f17
theorem dr_i_DropEdge : drawsOK (codeOf Tryd.f17) = true := by kernel_rfl
theorem fn_i_DropEdge {L n : Nat} {args : List A} {h : H} : evCall env L (n + 1) 17 args h = kCode env (evCall env L n) L h.length [] ([]) lp_i_DropEdge S_i_DropEdge (args ++ List.replicate (Tryd.f17.ntmps - args.length) (.d .undef)) h (kFin env.P h.length true Tryd.f17.results.toList) :=
  fn_eq2 (mode := 0) (by kernel_rfl) Tryd.func17 (by kernel_rfl) (by kernel_rfl) dr_i_DropEdge (by kernel_rfl) (by kernel_rfl)

/-! i_TracesWithin -/
noncomputable def S_i_TracesWithin : SC := slimF Tryd.f18
noncomputable def lp_i_TracesWithin : Nat → Code := lpOf Tryd.f18
theorem dr_i_TracesWithin : drawsOK (codeOf Tryd.f18) = true := by kernel_rfl
theorem fn_i_TracesWithin {L n : Nat} {args : List A} {h : H} : evCall env L (n + 1) 18 args h = kCode env (evCall env L n) L h.length [] ([]) lp_i_TracesWithin S_i_TracesWithin (args ++ List.replicate (Tryd.f18.ntmps - args.length) (.d .undef)) h (kFin env.P h.length false [.tmp 4]) :=
  fn_eq2 (mode := 1) (by kernel_rfl) Tryd.func18 (by kernel_rfl) (by kernel_rfl) dr_i_TracesWithin (by kernel_rfl) (by kernel_rfl)

/-! s_l19Open -/
noncomputable def S_s_l19Open : SC := slimF Tryd.f22
noncomputable def lp_s_l19Open : Nat → Code := lpOf Tryd.f22
theorem dr_s_l19Open : drawsOK (codeOf Tryd.f22) = true := by kernel_rfl
theorem fn_s_l19Open {L n : Nat} {args : List A} {h : H} : evCall env L (n + 1) 22 args h = kCode env (evCall env L n) L h.length [] ([]) lp_s_l19Open S_s_l19Open (args ++ List.replicate (Tryd.f22.ntmps - args.length) (.d .undef)) h (kFin env.P h.length true [.tmp 2]) :=
  fn_eq2 (mode := 2) (by kernel_rfl) Tryd.func22 (by kernel_rfl) (by kernel_rfl) dr_s_l19Open (by kernel_rfl) (by kernel_rfl)

/-! s_l2Any -/
noncomputable def S_s_l2Any : SC := slimF Tryd.f23
noncomputable def lp_s_l2Any : Nat → Code := lpOf Tryd.f23
theorem dr_s_l2Any : drawsOK (codeOf Tryd.f23) = true := by kernel_rfl
theorem fn_s_l2Any {L n : Nat} {args : List A} {h : H} : evCall env L (n + 1) 23 args h = kCode env (evCall env L n) L h.length [] ([]) lp_s_l2Any S_s_l2Any (args ++ List.replicate (Tryd.f23.ntmps - args.length) (.d .undef)) h (kFin env.P h.length false Tryd.f23.results.toList) :=
  fn_eq2 (mode := 0) (by kernel_rfl) Tryd.func23 (by kernel_rfl) (by kernel_rfl) dr_s_l2Any (by kernel_rfl) (by kernel_rfl)

/-! i_compareEdges -/
noncomputable def S_i_compareEdges : SC := slimF Tryd.f29
noncomputable def lp_i_compareEdges : Nat → Code := lpOf Tryd.f29
theorem dr_i_compareEdges : drawsOK (codeOf Tryd.f29) = true := by kernel_rfl
theorem fn_i_compareEdges {L n : Nat} {args : List A} {h : H} : evCall env L (n + 1) 29 args h = kCode env (evCall env L n) L h.length [] ([]) lp_i_compareEdges S_i_compareEdges (args ++ List.replicate (Tryd.f29.ntmps - args.length) (.d .undef)) h (kFin env.P h.length false [.tmp 4]) :=
  fn_eq2 (mode := 1) (by kernel_rfl) Tryd.func29 (by kernel_rfl) (by kernel_rfl) dr_i_compareEdges (by kernel_rfl) (by kernel_rfl)

/-! s_SystemValid -/
noncomputable def S_s_SystemValid : SC := slimF Tryd.f30
noncomputable def lp_s_SystemValid : Nat → Code := lpOf Tryd.f30
theorem dr_s_SystemValid : drawsOK (codeOf Tryd.f30) = true := by kernel_rfl
theorem fn_s_SystemValid {L n : Nat} {args : List A} {h : H} : evCall env L (n + 1) 30 args h = kCode env (evCall env L n) L h.length [] (false :: true :: true :: true :: false :: false :: false :: false :: false :: false :: false :: false :: false :: false :: false :: false :: false :: false :: false :: false :: false :: false :: false :: false :: false :: false :: false :: false :: false :: false :: false :: false :: false :: false :: false :: false :: false :: false :: false :: false :: false :: false :: false :: false :: false :: false :: false :: false :: false :: false :: false :: false :: false :: false :: false :: []) lp_s_SystemValid S_s_SystemValid (args ++ List.replicate (Tryd.f30.ntmps - args.length) (.d .undef)) h (kFin env.P h.length false [.tmp 2]) :=
  fn_eq2 (mode := 1) (by kernel_rfl) Tryd.func30 (by kernel_rfl) (by kernel_rfl) dr_s_SystemValid (by kernel_rfl) (by kernel_rfl)
noncomputable def S_s_SystemValid_0 : SC := slimL Tryd.f30 0
theorem step_s_SystemValid_0 {R : Type} {call : CallF} {L nf n : Nat} {thaw : List Nat} {live m : List Bool} {s : List A} {h : H} {k : Exit → List A → H → Option R} : kLoop env call L nf thaw live (lp_s_SystemValid 0) m (n + 1) s h k = kCode env call L nf thaw live lp_s_SystemValid S_s_SystemValid_0 s h (kNext env call L nf thaw live (lp_s_SystemValid 0) m n k) :=
  kLoop_step dr_s_SystemValid (by kernel_rfl)

/-! s_l17Sorted -/
noncomputable def S_s_l17Sorted : SC := slimF Tryd.f34
noncomputable def lp_s_l17Sorted : Nat → Code := lpOf Tryd.f34
theorem dr_s_l17Sorted : drawsOK (codeOf Tryd.f34) = true := by kernel_rfl
theorem fn_s_l17Sorted {L n : Nat} {args : List A} {h : H} : evCall env L (n + 1) 34 args h = kCode env (evCall env L n) L h.length [] (true :: false :: true :: true :: true :: true :: false :: false :: false :: false :: false :: false :: false :: false :: false :: false :: false :: false :: false :: false :: false :: false :: false :: false :: false :: false :: false :: false :: false :: false :: false :: false :: false :: false :: false :: false :: false :: false :: false :: false :: false :: false :: false :: false :: false :: false :: false :: false :: []) lp_s_l17Sorted S_s_l17Sorted (args ++ List.replicate (Tryd.f34.ntmps - args.length) (.d .undef)) h (kFin env.P h.length false [.tmp 2]) :=
  fn_eq2 (mode := 2) (by kernel_rfl) Tryd.func34 (by kernel_rfl) (by kernel_rfl) dr_s_l17Sorted (by kernel_rfl) (by kernel_rfl)
noncomputable def S_s_l17Sorted_0 : SC := slimL Tryd.f34 0
theorem step_s_l17Sorted_0 {R : Type} {call : CallF} {L nf n : Nat} {thaw : List Nat} {live m : List Bool} {s : List A} {h : H} {k : Exit → List A → H → Option R} : kLoop env call L nf thaw live (lp_s_l17Sorted 0) m (n + 1) s h k = kCode env call L nf thaw live lp_s_l17Sorted S_s_l17Sorted_0 s h (kNext env call L nf thaw live (lp_s_l17Sorted 0) m n k) :=
  kLoop_step dr_s_l17Sorted (by kernel_rfl)
noncomputable def S_s_l17Sorted_1 : SC := slimL Tryd.f34 1
theorem step_s_l17Sorted_1 {R : Type} {call : CallF} {L nf n : Nat} {thaw : List Nat} {live m : List Bool} {s : List A} {h : H} {k : Exit → List A → H → Option R} : kLoop env call L nf thaw live (lp_s_l17Sorted 1) m (n + 1) s h k = kCode env call L nf thaw live lp_s_l17Sorted S_s_l17Sorted_1 s h (kNext env call L nf thaw live (lp_s_l17Sorted 1) m n k) :=
  kLoop_step dr_s_l17Sorted (by kernel_rfl)

/-! i_isAlphabet -/
noncomputable def S_i_isAlphabet : SC := slimF Tryd.f35
noncomputable def lp_i_isAlphabet : Nat → Code := lpOf Tryd.f35
theorem dr_i_isAlphabet : drawsOK (codeOf Tryd.f35) = true := by kernel_rfl
theorem fn_i_isAlphabet {L n : Nat} {args : List A} {h : H} : evCall env L (n + 1) 35 args h = kCode env (evCall env L n) L h.length [] ([]) lp_i_isAlphabet S_i_isAlphabet (args ++ List.replicate (Tryd.f35.ntmps - args.length) (.d .undef)) h (kFin env.P h.length false [.tmp 2]) :=
  fn_eq2 (mode := 1) (by kernel_rfl) Tryd.func35 (by kernel_rfl) (by kernel_rfl) dr_i_isAlphabet (by kernel_rfl) (by kernel_rfl)

/-! i_lettersOf -/
noncomputable def S_i_lettersOf : SC := slimF Tryd.f36
noncomputable def lp_i_lettersOf : Nat → Code := lpOf Tryd.f36
theorem dr_i_lettersOf : drawsOK (codeOf Tryd.f36) = true := by kernel_rfl
theorem fn_i_lettersOf {L n : Nat} {args : List A} {h : H} : evCall env L (n + 1) 36 args h = kCode env (evCall env L n) L h.length [0, 0, 0, 2] (true :: false :: true :: true :: false :: true :: false :: false :: false :: false :: false :: false :: false :: false :: false :: false :: false :: []) lp_i_lettersOf S_i_lettersOf (args ++ List.replicate (Tryd.f36.ntmps - args.length) (.d .undef)) h (kFin env.P h.length false [.tmp 2]) :=
  fn_eq2 (mode := 2) (by kernel_rfl) Tryd.func36 (by kernel_rfl) (by kernel_rfl) dr_i_lettersOf (by kernel_rfl) (by kernel_rfl)
noncomputable def S_i_lettersOf_0 : SC := slimL Tryd.f36 0
theorem step_i_lettersOf_0 {R : Type} {call : CallF} {L nf n : Nat} {thaw : List Nat} {live m : List Bool} {s : List A} {h : H} {k : Exit → List A → H → Option R} : kLoop env call L nf thaw live (lp_i_lettersOf 0) m (n + 1) s h k = kCode env call L nf thaw live lp_i_lettersOf S_i_lettersOf_0 s h (kNext env call L nf thaw live (lp_i_lettersOf 0) m n k) :=
  kLoop_step dr_i_lettersOf (by kernel_rfl)

/-! i_letterByte -/
/-! slices_Reverse_byte_byte -/
/-! i_movesOf -/
noncomputable def S_i_movesOf : SC := slimF Tryd.f40
noncomputable def lp_i_movesOf : Nat → Code := lpOf Tryd.f40
theorem dr_i_movesOf : drawsOK (codeOf Tryd.f40) = true := by kernel_rfl
theorem fn_i_movesOf {L n : Nat} {args : List A} {h : H} : evCall env L (n + 1) 40 args h = kCode env (evCall env L n) L h.length [] (false :: false :: true :: true :: false :: false :: false :: false :: true :: true :: true :: false :: false :: false :: false :: false :: false :: false :: false :: false :: false :: false :: false :: false :: false :: false :: false :: false :: false :: false :: false :: false :: []) lp_i_movesOf S_i_movesOf (args ++ List.replicate (Tryd.f40.ntmps - args.length) (.d .undef)) h (kFin env.P h.length false [.tmp 2]) :=
  fn_eq2 (mode := 2) (by kernel_rfl) Tryd.func40 (by kernel_rfl) (by kernel_rfl) dr_i_movesOf (by kernel_rfl) (by kernel_rfl)
noncomputable def S_i_movesOf_0 : SC := slimL Tryd.f40 0
theorem step_i_movesOf_0 {R : Type} {call : CallF} {L nf n : Nat} {thaw : List Nat} {live m : List Bool} {s : List A} {h : H} {k : Exit → List A → H → Option R} : kLoop env call L nf thaw live (lp_i_movesOf 0) m (n + 1) s h k = kCode env call L nf thaw live lp_i_movesOf S_i_movesOf_0 s h (kNext env call L nf thaw live (lp_i_movesOf 0) m n k) :=
  kLoop_step dr_i_movesOf (by kernel_rfl)

/-! i_moves_step -/
noncomputable def S_i_moves_step : SC := slimF Tryd.f41
noncomputable def lp_i_moves_step : Nat → Code := lpOf Tryd.f41
theorem dr_i_moves_step : drawsOK (codeOf Tryd.f41) = true := by kernel_rfl
theorem fn_i_moves_step {L n : Nat} {args : List A} {h : H} : evCall env L (n + 1) 41 args h = kCode env (evCall env L n) L h.length [] (true :: true :: true :: false :: false :: false :: true :: true :: false :: false :: false :: false :: false :: false :: false :: false :: false :: false :: false :: false :: false :: false :: false :: false :: false :: false :: []) lp_i_moves_step S_i_moves_step (args ++ List.replicate (Tryd.f41.ntmps - args.length) (.d .undef)) h (kFin env.P h.length false [.tmp 6]) :=
  fn_eq2 (mode := 1) (by kernel_rfl) Tryd.func41 (by kernel_rfl) (by kernel_rfl) dr_i_moves_step (by kernel_rfl) (by kernel_rfl)
noncomputable def S_i_moves_step_0 : SC := slimL Tryd.f41 0
theorem step_i_moves_step_0 {R : Type} {call : CallF} {L nf n : Nat} {thaw : List Nat} {live m : List Bool} {s : List A} {h : H} {k : Exit → List A → H → Option R} : kLoop env call L nf thaw live (lp_i_moves_step 0) m (n + 1) s h k = kCode env call L nf thaw live lp_i_moves_step S_i_moves_step_0 s h (kNext env call L nf thaw live (lp_i_moves_step 0) m n k) :=
  kLoop_step dr_i_moves_step (by kernel_rfl)

/-! i_isState -/
noncomputable def S_i_isState : SC := slimF Tryd.f44
noncomputable def lp_i_isState : Nat → Code := lpOf Tryd.f44
theorem dr_i_isState : drawsOK (codeOf Tryd.f44) = true := by kernel_rfl
theorem fn_i_isState {L n : Nat} {args : List A} {h : H} : evCall env L (n + 1) 44 args h = kCode env (evCall env L n) L h.length [] ([]) lp_i_isState S_i_isState (args ++ List.replicate (Tryd.f44.ntmps - args.length) (.d .undef)) h (kFin env.P h.length false [.tmp 4]) :=
  fn_eq2 (mode := 1) (by kernel_rfl) Tryd.func44 (by kernel_rfl) (by kernel_rfl) dr_i_isState (by kernel_rfl) (by kernel_rfl)

/-! i_has -/
noncomputable def S_i_has : SC := slimF Tryd.f45
noncomputable def lp_i_has : Nat → Code := lpOf Tryd.f45
theorem dr_i_has : drawsOK (codeOf Tryd.f45) = true := by kernel_rfl
theorem fn_i_has {L n : Nat} {args : List A} {h : H} : evCall env L (n + 1) 45 args h = kCode env (evCall env L n) L h.length [] ([]) lp_i_has S_i_has (args ++ List.replicate (Tryd.f45.ntmps - args.length) (.d .undef)) h (kFin env.P h.length false [.tmp 4]) :=
  fn_eq2 (mode := 1) (by kernel_rfl) Tryd.func45 (by kernel_rfl) (by kernel_rfl) dr_i_has (by kernel_rfl) (by kernel_rfl)

/-! s_l17Edge -/
noncomputable def S_s_l17Edge : SC := slimF Tryd.f46
noncomputable def lp_s_l17Edge : Nat → Code := lpOf Tryd.f46
theorem dr_s_l17Edge : drawsOK (codeOf Tryd.f46) = true := by kernel_rfl
theorem fn_s_l17Edge {L n : Nat} {args : List A} {h : H} : evCall env L (n + 1) 46 args h = kCode env (evCall env L n) L h.length [] ([]) lp_s_l17Edge S_s_l17Edge (args ++ List.replicate (Tryd.f46.ntmps - args.length) (.d .undef)) h (kFin env.P h.length false Tryd.f46.results.toList) :=
  fn_eq2 (mode := 0) (by kernel_rfl) Tryd.func46 (by kernel_rfl) (by kernel_rfl) dr_s_l17Edge (by kernel_rfl) (by kernel_rfl)

/-! slices_BinarySearchFunc_i_Edge_i_Edge_i_Edge -/
noncomputable def S_slices_BinarySearchFunc_i_Edge_i_Edge_i_Edge : SC := slimF Tryd.f47
noncomputable def lp_slices_BinarySearchFunc_i_Edge_i_Edge_i_Edge : Nat → Code := lpOf Tryd.f47
theorem dr_slices_BinarySearchFunc_i_Edge_i_Edge_i_Edge : drawsOK (codeOf Tryd.f47) = true := by kernel_rfl
theorem fn_slices_BinarySearchFunc_i_Edge_i_Edge_i_Edge {L n : Nat} {args : List A} {h : H} : evCall env L (n + 1) 47 args h = kCode env (evCall env L n) L h.length [] (true :: false :: true :: false :: true :: false :: true :: true :: true :: true :: true :: false :: false :: false :: false :: false :: false :: false :: false :: false :: false :: false :: false :: false :: false :: false :: false :: false :: false :: false :: false :: false :: false :: false :: false :: false :: false :: false :: false :: false :: false :: false :: false :: false :: false :: false :: false :: false :: false :: []) lp_slices_BinarySearchFunc_i_Edge_i_Edge_i_Edge S_slices_BinarySearchFunc_i_Edge_i_Edge_i_Edge (args ++ List.replicate (Tryd.f47.ntmps - args.length) (.d .undef)) h (kFin env.P h.length false [.tmp 6, .tmp 7]) :=
  fn_eq2 (mode := 1) (by kernel_rfl) Tryd.func47 (by kernel_rfl) (by kernel_rfl) dr_slices_BinarySearchFunc_i_Edge_i_Edge_i_Edge (by kernel_rfl) (by kernel_rfl)
noncomputable def S_slices_BinarySearchFunc_i_Edge_i_Edge_i_Edge_0 : SC := slimL Tryd.f47 0
theorem step_slices_BinarySearchFunc_i_Edge_i_Edge_i_Edge_0 {R : Type} {call : CallF} {L nf n : Nat} {thaw : List Nat} {live m : List Bool} {s : List A} {h : H} {k : Exit → List A → H → Option R} : kLoop env call L nf thaw live (lp_slices_BinarySearchFunc_i_Edge_i_Edge_i_Edge 0) m (n + 1) s h k = kCode env call L nf thaw live lp_slices_BinarySearchFunc_i_Edge_i_Edge_i_Edge S_slices_BinarySearchFunc_i_Edge_i_Edge_i_Edge_0 s h (kNext env call L nf thaw live (lp_slices_BinarySearchFunc_i_Edge_i_Edge_i_Edge 0) m n k) :=
  kLoop_step dr_slices_BinarySearchFunc_i_Edge_i_Edge_i_Edge (by kernel_rfl)

/-! slices_Insert_i_Edge_i_Edge -/
theorem prim_slices_Insert_i_Edge_i_Edge {L n : Nat} {args : List A} {h : H} : evCall env L (n + 1) 48 args h = gInsert 3 args h := by
  have : env.prim 48 = some (gInsert 3) := by kernel_rfl
  simp only [evCall, this]
/-! slices_Clone_i_Edge_i_Edge -/
theorem prim_slices_Clone_i_Edge_i_Edge {L n : Nat} {args : List A} {h : H} : evCall env L (n + 1) 49 args h = gClone 3 args h := by
  have : env.prim 49 = some (gClone 3) := by kernel_rfl
  simp only [evCall, this]
/-! s_l2Edge -/
noncomputable def S_s_l2Edge : SC := slimF Tryd.f50
noncomputable def lp_s_l2Edge : Nat → Code := lpOf Tryd.f50
theorem dr_s_l2Edge : drawsOK (codeOf Tryd.f50) = true := by kernel_rfl
theorem fn_s_l2Edge {L n : Nat} {args : List A} {h : H} : evCall env L (n + 1) 50 args h = kCode env (evCall env L n) L h.length [] ([]) lp_s_l2Edge S_s_l2Edge (args ++ List.replicate (Tryd.f50.ntmps - args.length) (.d .undef)) h (kFin env.P h.length false [.tmp 6]) :=
  fn_eq2 (mode := 1) (by kernel_rfl) Tryd.func50 (by kernel_rfl) (by kernel_rfl) dr_s_l2Edge (by kernel_rfl) (by kernel_rfl)

/-! s_l17Index -/
noncomputable def S_s_l17Index : SC := slimF Tryd.f51
noncomputable def lp_s_l17Index : Nat → Code := lpOf Tryd.f51
theorem dr_s_l17Index : drawsOK (codeOf Tryd.f51) = true := by kernel_rfl
theorem fn_s_l17Index {L n : Nat} {args : List A} {h : H} : evCall env L (n + 1) 51 args h = kCode env (evCall env L n) L h.length [] (true :: false :: false :: true :: true :: true :: false :: false :: false :: false :: false :: false :: false :: false :: false :: false :: false :: false :: false :: []) lp_s_l17Index S_s_l17Index (args ++ List.replicate (Tryd.f51.ntmps - args.length) (.d .undef)) h (kFin env.P h.length false [.tmp 4]) :=
  fn_eq2 (mode := 1) (by kernel_rfl) Tryd.func51 (by kernel_rfl) (by kernel_rfl) dr_s_l17Index (by kernel_rfl) (by kernel_rfl)
noncomputable def S_s_l17Index_0 : SC := slimL Tryd.f51 0
theorem step_s_l17Index_0 {R : Type} {call : CallF} {L nf n : Nat} {thaw : List Nat} {live m : List Bool} {s : List A} {h : H} {k : Exit → List A → H → Option R} : kLoop env call L nf thaw live (lp_s_l17Index 0) m (n + 1) s h k = kCode env call L nf thaw live lp_s_l17Index S_s_l17Index_0 s h (kNext env call L nf thaw live (lp_s_l17Index 0) m n k) :=
  kLoop_step dr_s_l17Index (by kernel_rfl)

/-! slices_Delete_i_Edge_i_Edge -/
theorem prim_slices_Delete_i_Edge_i_Edge {L n : Nat} {args : List A} {h : H} : evCall env L (n + 1) 52 args h = gDelete 3 args h := by
  have : env.prim 52 = some (gDelete 3) := by kernel_rfl
  simp only [evCall, this]
/-! i_FirstTraceOutside -/
noncomputable def S_i_FirstTraceOutside : SC := slimF Tryd.f53
noncomputable def lp_i_FirstTraceOutside : Nat → Code := lpOf Tryd.f53
theorem dr_i_FirstTraceOutside : drawsOK (codeOf Tryd.f53) = true := by kernel_rfl
theorem fn_i_FirstTraceOutside {L n : Nat} {args : List A} {h : H} : evCall env L (n + 1) 53 args h = kCode env (evCall env L n) L h.length [] ([]) lp_i_FirstTraceOutside S_i_FirstTraceOutside (args ++ List.replicate (Tryd.f53.ntmps - args.length) (.d .undef)) h (kFin env.P h.length false [.tmp 4, .tmp 5]) :=
  fn_eq2 (mode := 1) (by kernel_rfl) Tryd.func53 (by kernel_rfl) (by kernel_rfl) dr_i_FirstTraceOutside (by kernel_rfl) (by kernel_rfl)

/-! i_sameAlphabets -/
noncomputable def S_i_sameAlphabets : SC := slimF Tryd.f54
noncomputable def lp_i_sameAlphabets : Nat → Code := lpOf Tryd.f54
theorem dr_i_sameAlphabets : drawsOK (codeOf Tryd.f54) = true := by kernel_rfl
theorem fn_i_sameAlphabets {L n : Nat} {args : List A} {h : H} : evCall env L (n + 1) 54 args h = kCode env (evCall env L n) L h.length [] ([]) lp_i_sameAlphabets S_i_sameAlphabets (args ++ List.replicate (Tryd.f54.ntmps - args.length) (.d .undef)) h (kFin env.P h.length false [.tmp 4]) :=
  fn_eq2 (mode := 1) (by kernel_rfl) Tryd.func54 (by kernel_rfl) (by kernel_rfl) dr_i_sameAlphabets (by kernel_rfl) (by kernel_rfl)

/-! s_l19Rd_pick -/
noncomputable def S_s_l19Rd_pick : SC := slimF Tryd.f57
noncomputable def lp_s_l19Rd_pick : Nat → Code := lpOf Tryd.f57
theorem dr_s_l19Rd_pick : drawsOK (codeOf Tryd.f57) = true := by kernel_rfl
theorem fn_s_l19Rd_pick {L n : Nat} {args : List A} {h : H} : evCall env L (n + 1) 57 args h = kCode env (evCall env L n) L h.length [] ([]) lp_s_l19Rd_pick S_s_l19Rd_pick (args ++ List.replicate (Tryd.f57.ntmps - args.length) (.d .undef)) h (kFin env.P h.length false [.tmp 4]) :=
  fn_eq2 (mode := 0) (by kernel_rfl) Tryd.func57 (by kernel_rfl) (by kernel_rfl) dr_s_l19Rd_pick (by kernel_rfl) (by kernel_rfl)

/-! s_l2Big -/
noncomputable def S_s_l2Big : SC := slimF Tryd.f58
noncomputable def lp_s_l2Big : Nat → Code := lpOf Tryd.f58
theorem dr_s_l2Big : drawsOK (codeOf Tryd.f58) = true := by kernel_rfl
theorem fn_s_l2Big {L n : Nat} {args : List A} {h : H} : evCall env L (n + 1) 58 args h = kCode env (evCall env L n) L h.length [] (true :: false :: true :: true :: true :: false :: false :: false :: false :: false :: false :: false :: false :: false :: false :: false :: false :: false :: false :: false :: false :: false :: false :: false :: false :: false :: false :: false :: false :: false :: false :: false :: false :: false :: false :: false :: false :: false :: false :: []) lp_s_l2Big S_s_l2Big (args ++ List.replicate (Tryd.f58.ntmps - args.length) (.d .undef)) h (kFin env.P h.length false Tryd.f58.results.toList) :=
  fn_eq2 (mode := 0) (by kernel_rfl) Tryd.func58 (by kernel_rfl) (by kernel_rfl) dr_s_l2Big (by kernel_rfl) (by kernel_rfl)
noncomputable def S_s_l2Big_0 : SC := slimL Tryd.f58 0
theorem step_s_l2Big_0 {R : Type} {call : CallF} {L nf n : Nat} {thaw : List Nat} {live m : List Bool} {s : List A} {h : H} {k : Exit → List A → H → Option R} : kLoop env call L nf thaw live (lp_s_l2Big 0) m (n + 1) s h k = kCode env call L nf thaw live lp_s_l2Big S_s_l2Big_0 s h (kNext env call L nf thaw live (lp_s_l2Big 0) m n k) :=
  kLoop_step dr_s_l2Big (by kernel_rfl)

/-! s_l2Wrong -/
noncomputable def S_s_l2Wrong : SC := slimF Tryd.f59
noncomputable def lp_s_l2Wrong : Nat → Code := lpOf Tryd.f59
theorem dr_s_l2Wrong : drawsOK (codeOf Tryd.f59) = true := by kernel_rfl
theorem fn_s_l2Wrong {L n : Nat} {args : List A} {h : H} : evCall env L (n + 1) 59 args h = kCode env (evCall env L n) L h.length [] ([]) lp_s_l2Wrong S_s_l2Wrong (args ++ List.replicate (Tryd.f59.ntmps - args.length) (.d .undef)) h (kFin env.P h.length false Tryd.f59.results.toList) :=
  fn_eq2 (mode := 0) (by kernel_rfl) Tryd.func59 (by kernel_rfl) (by kernel_rfl) dr_s_l2Wrong (by kernel_rfl) (by kernel_rfl)

/-! s_l2Draw -/
noncomputable def S_s_l2Draw : SC := slimF Tryd.f60
noncomputable def lp_s_l2Draw : Nat → Code := lpOf Tryd.f60
theorem dr_s_l2Draw : drawsOK (codeOf Tryd.f60) = true := by kernel_rfl
theorem fn_s_l2Draw {L n : Nat} {args : List A} {h : H} : evCall env L (n + 1) 60 args h = kCode env (evCall env L n) L h.length [] ([]) lp_s_l2Draw S_s_l2Draw (args ++ List.replicate (Tryd.f60.ntmps - args.length) (.d .undef)) h (kFin env.P h.length false Tryd.f60.results.toList) :=
  fn_eq2 (mode := 0) (by kernel_rfl) Tryd.func60 (by kernel_rfl) (by kernel_rfl) dr_s_l2Draw (by kernel_rfl) (by kernel_rfl)

/-! s_l19Rd_num -/
noncomputable def S_s_l19Rd_num : SC := slimF Tryd.f61
noncomputable def lp_s_l19Rd_num : Nat → Code := lpOf Tryd.f61
theorem dr_s_l19Rd_num : drawsOK (codeOf Tryd.f61) = true := by kernel_rfl
theorem fn_s_l19Rd_num {L n : Nat} {args : List A} {h : H} : evCall env L (n + 1) 61 args h = kCode env (evCall env L n) L h.length [] ([]) lp_s_l19Rd_num S_s_l19Rd_num (args ++ List.replicate (Tryd.f61.ntmps - args.length) (.d .undef)) h (kFin env.P h.length false [.tmp 4]) :=
  fn_eq2 (mode := 0) (by kernel_rfl) Tryd.func61 (by kernel_rfl) (by kernel_rfl) dr_s_l19Rd_num (by kernel_rfl) (by kernel_rfl)

/-! cmp_Or_int -/
noncomputable def S_cmp_Or_int : SC := slimF Tryd.f64
noncomputable def lp_cmp_Or_int : Nat → Code := lpOf Tryd.f64
theorem dr_cmp_Or_int : drawsOK (codeOf Tryd.f64) = true := by kernel_rfl
theorem fn_cmp_Or_int {L n : Nat} {args : List A} {h : H} : evCall env L (n + 1) 64 args h = kCode env (evCall env L n) L h.length [] (false :: false :: true :: true :: false :: false :: true :: true :: true :: false :: false :: false :: false :: false :: false :: false :: false :: false :: []) lp_cmp_Or_int S_cmp_Or_int (args ++ List.replicate (Tryd.f64.ntmps - args.length) (.d .undef)) h (kFin env.P h.length false [.tmp 2]) :=
  fn_eq2 (mode := 1) (by kernel_rfl) Tryd.func64 (by kernel_rfl) (by kernel_rfl) dr_cmp_Or_int (by kernel_rfl) (by kernel_rfl)
noncomputable def S_cmp_Or_int_0 : SC := slimL Tryd.f64 0
theorem step_cmp_Or_int_0 {R : Type} {call : CallF} {L nf n : Nat} {thaw : List Nat} {live m : List Bool} {s : List A} {h : H} {k : Exit → List A → H → Option R} : kLoop env call L nf thaw live (lp_cmp_Or_int 0) m (n + 1) s h k = kCode env call L nf thaw live lp_cmp_Or_int S_cmp_Or_int_0 s h (kNext env call L nf thaw live (lp_cmp_Or_int 0) m n k) :=
  kLoop_step dr_cmp_Or_int (by kernel_rfl)

/-! cmp_Compare_int -/
noncomputable def S_cmp_Compare_int : SC := slimF Tryd.f65
noncomputable def lp_cmp_Compare_int : Nat → Code := lpOf Tryd.f65
theorem dr_cmp_Compare_int : drawsOK (codeOf Tryd.f65) = true := by kernel_rfl
theorem fn_cmp_Compare_int {L n : Nat} {args : List A} {h : H} : evCall env L (n + 1) 65 args h = kCode env (evCall env L n) L h.length [] ([]) lp_cmp_Compare_int S_cmp_Compare_int (args ++ List.replicate (Tryd.f65.ntmps - args.length) (.d .undef)) h (kFin env.P h.length false [.tmp 4]) :=
  fn_eq2 (mode := 1) (by kernel_rfl) Tryd.func65 (by kernel_rfl) (by kernel_rfl) dr_cmp_Compare_int (by kernel_rfl) (by kernel_rfl)

/-! s_l1Alphabet -/
noncomputable def S_s_l1Alphabet : SC := slimF Tryd.f66
noncomputable def lp_s_l1Alphabet : Nat → Code := lpOf Tryd.f66
theorem dr_s_l1Alphabet : drawsOK (codeOf Tryd.f66) = true := by kernel_rfl
theorem fn_s_l1Alphabet {L n : Nat} {args : List A} {h : H} : evCall env L (n + 1) 66 args h = kCode env (evCall env L n) L h.length [] ([]) lp_s_l1Alphabet S_s_l1Alphabet (args ++ List.replicate (Tryd.f66.ntmps - args.length) (.d .undef)) h (kFin env.P h.length false [.tmp 2]) :=
  fn_eq2 (mode := 1) (by kernel_rfl) Tryd.func66 (by kernel_rfl) (by kernel_rfl) dr_s_l1Alphabet (by kernel_rfl) (by kernel_rfl)

/-! s_l2Before -/
noncomputable def S_s_l2Before : SC := slimF Tryd.f67
noncomputable def lp_s_l2Before : Nat → Code := lpOf Tryd.f67
theorem dr_s_l2Before : drawsOK (codeOf Tryd.f67) = true := by kernel_rfl
theorem fn_s_l2Before {L n : Nat} {args : List A} {h : H} : evCall env L (n + 1) 67 args h = kCode env (evCall env L n) L h.length [] ([]) lp_s_l2Before S_s_l2Before (args ++ List.replicate (Tryd.f67.ntmps - args.length) (.d .undef)) h (kFin env.P h.length false [.tmp 4]) :=
  fn_eq2 (mode := 1) (by kernel_rfl) Tryd.func67 (by kernel_rfl) (by kernel_rfl) dr_s_l2Before (by kernel_rfl) (by kernel_rfl)

/-! s_l1Has -/
noncomputable def S_s_l1Has : SC := slimF Tryd.f68
noncomputable def lp_s_l1Has : Nat → Code := lpOf Tryd.f68
theorem dr_s_l1Has : drawsOK (codeOf Tryd.f68) = true := by kernel_rfl
theorem fn_s_l1Has {L n : Nat} {args : List A} {h : H} : evCall env L (n + 1) 68 args h = kCode env (evCall env L n) L h.length [] ([]) lp_s_l1Has S_s_l1Has (args ++ List.replicate (Tryd.f68.ntmps - args.length) (.d .undef)) h (kFin env.P h.length false [.tmp 4]) :=
  fn_eq2 (mode := 1) (by kernel_rfl) Tryd.func68 (by kernel_rfl) (by kernel_rfl) dr_s_l1Has (by kernel_rfl) (by kernel_rfl)

/-! math_bits_TrailingZeros -/
theorem prim_math_bits_TrailingZeros {L n : Nat} {args : List A} {h : H} : evCall env L (n + 1) 70 args h = gCtz args h := by
  have : env.prim 70 = some (gCtz) := by kernel_rfl
  simp only [evCall, this]
/-! slices_rotateRight_i_Edge -/
/-! i_FirstTraceOutside_c1 -/
noncomputable def S_i_FirstTraceOutside_c1 : SC := slimF Tryd.f73
noncomputable def lp_i_FirstTraceOutside_c1 : Nat → Code := lpOf Tryd.f73
theorem dr_i_FirstTraceOutside_c1 : drawsOK (codeOf Tryd.f73) = true := by kernel_rfl
theorem fn_i_FirstTraceOutside_c1 {L n : Nat} {args : List A} {h : H} : evCall env L (n + 1) 73 args h = kCode env (evCall env L n) L h.length [] (false :: false :: true :: false :: true :: false :: false :: false :: false :: true :: true :: false :: false :: false :: false :: false :: false :: false :: false :: false :: false :: false :: false :: false :: false :: false :: false :: false :: true :: true :: true :: false :: false :: false :: false :: false :: false :: false :: false :: false :: false :: false :: false :: false :: []) lp_i_FirstTraceOutside_c1 S_i_FirstTraceOutside_c1 (args ++ List.replicate (Tryd.f73.ntmps - args.length) (.d .undef)) h (kFin env.P h.length false [.tmp 9]) :=
  fn_eq2 (mode := 0) (by kernel_rfl) Tryd.func73 (by kernel_rfl) (by kernel_rfl) dr_i_FirstTraceOutside_c1 (by kernel_rfl) (by kernel_rfl)
noncomputable def S_i_FirstTraceOutside_c1_0 : SC := slimL Tryd.f73 0
theorem step_i_FirstTraceOutside_c1_0 {R : Type} {call : CallF} {L nf n : Nat} {thaw : List Nat} {live m : List Bool} {s : List A} {h : H} {k : Exit → List A → H → Option R} : kLoop env call L nf thaw live (lp_i_FirstTraceOutside_c1 0) m (n + 1) s h k = kCode env call L nf thaw live lp_i_FirstTraceOutside_c1 S_i_FirstTraceOutside_c1_0 s h (kNext env call L nf thaw live (lp_i_FirstTraceOutside_c1 0) m n k) :=
  kLoop_step dr_i_FirstTraceOutside_c1 (by kernel_rfl)

/-! i_members -/
noncomputable def S_i_members : SC := slimF Tryd.f74
noncomputable def lp_i_members : Nat → Code := lpOf Tryd.f74
theorem dr_i_members : drawsOK (codeOf Tryd.f74) = true := by kernel_rfl
theorem fn_i_members {L n : Nat} {args : List A} {h : H} : evCall env L (n + 1) 74 args h = kCode env (evCall env L n) L h.length [0, 0, 0, 2] (true :: false :: true :: true :: false :: false :: false :: false :: false :: false :: false :: false :: false :: false :: false :: false :: false :: []) lp_i_members S_i_members (args ++ List.replicate (Tryd.f74.ntmps - args.length) (.d .undef)) h (kFin env.P h.length false [.tmp 2]) :=
  fn_eq2 (mode := 2) (by kernel_rfl) Tryd.func74 (by kernel_rfl) (by kernel_rfl) dr_i_members (by kernel_rfl) (by kernel_rfl)
noncomputable def S_i_members_0 : SC := slimL Tryd.f74 0
theorem step_i_members_0 {R : Type} {call : CallF} {L nf n : Nat} {thaw : List Nat} {live m : List Bool} {s : List A} {h : H} {k : Exit → List A → H → Option R} : kLoop env call L nf thaw live (lp_i_members 0) m (n + 1) s h k = kCode env call L nf thaw live lp_i_members S_i_members_0 s h (kNext env call L nf thaw live (lp_i_members 0) m n k) :=
  kLoop_step dr_i_members (by kernel_rfl)

/-! i_firstPath -/
noncomputable def S_i_firstPath : SC := slimF Tryd.f75
noncomputable def lp_i_firstPath : Nat → Code := lpOf Tryd.f75
theorem dr_i_firstPath : drawsOK (codeOf Tryd.f75) = true := by kernel_rfl
theorem fn_i_firstPath {L n : Nat} {args : List A} {h : H} : evCall env L (n + 1) 75 args h = kCode env (evCall env L n) L h.length [0, 0, 0, 0, 0, 0, 0, 0, 0, 0, 0, 0, 0, 0, 0, 0, 0, 0, 2] (false :: false :: true :: true :: false :: false :: false :: false :: false :: false :: true :: true :: false :: true :: true :: true :: false :: true :: true :: false :: false :: false :: false :: false :: false :: false :: false :: false :: false :: false :: false :: false :: false :: true :: true :: true :: false :: false :: false :: false :: false :: false :: false :: true :: true :: true :: false :: false :: false :: false :: false :: false :: false :: false :: false :: false :: false :: false :: false :: false :: false :: false :: false :: []) lp_i_firstPath S_i_firstPath (args ++ List.replicate (Tryd.f75.ntmps - args.length) (.d .undef)) h (kFin env.P h.length false [.tmp 10, .tmp 11]) :=
  fn_eq2 (mode := 1) (by kernel_rfl) Tryd.func75 (by kernel_rfl) (by kernel_rfl) dr_i_firstPath (by kernel_rfl) (by kernel_rfl)
noncomputable def S_i_firstPath_0 : SC := slimL Tryd.f75 0
theorem step_i_firstPath_0 {R : Type} {call : CallF} {L nf n : Nat} {thaw : List Nat} {live m : List Bool} {s : List A} {h : H} {k : Exit → List A → H → Option R} : kLoop env call L nf thaw live (lp_i_firstPath 0) m (n + 1) s h k = kCode env call L nf thaw live lp_i_firstPath S_i_firstPath_0 s h (kNext env call L nf thaw live (lp_i_firstPath 0) m n k) :=
  kLoop_step dr_i_firstPath (by kernel_rfl)
noncomputable def S_i_firstPath_1 : SC := slimL Tryd.f75 1
theorem step_i_firstPath_1 {R : Type} {call : CallF} {L nf n : Nat} {thaw : List Nat} {live m : List Bool} {s : List A} {h : H} {k : Exit → List A → H → Option R} : kLoop env call L nf thaw live (lp_i_firstPath 1) m (n + 1) s h k = kCode env call L nf thaw live lp_i_firstPath S_i_firstPath_1 s h (kNext env call L nf thaw live (lp_i_firstPath 1) m n k) :=
  kLoop_step dr_i_firstPath (by kernel_rfl)
noncomputable def S_i_firstPath_2 : SC := slimL Tryd.f75 2
theorem step_i_firstPath_2 {R : Type} {call : CallF} {L nf n : Nat} {thaw : List Nat} {live m : List Bool} {s : List A} {h : H} {k : Exit → List A → H → Option R} : kLoop env call L nf thaw live (lp_i_firstPath 2) m (n + 1) s h k = kCode env call L nf thaw live lp_i_firstPath S_i_firstPath_2 s h (kNext env call L nf thaw live (lp_i_firstPath 2) m n k) :=
  kLoop_step dr_i_firstPath (by kernel_rfl)

/-! i_FirstTraceOutside_c2 -/
noncomputable def S_i_FirstTraceOutside_c2 : SC := slimF Tryd.f76
noncomputable def lp_i_FirstTraceOutside_c2 : Nat → Code := lpOf Tryd.f76
theorem dr_i_FirstTraceOutside_c2 : drawsOK (codeOf Tryd.f76) = true := by kernel_rfl
theorem fn_i_FirstTraceOutside_c2 {L n : Nat} {args : List A} {h : H} : evCall env L (n + 1) 76 args h = kCode env (evCall env L n) L h.length [] ([]) lp_i_FirstTraceOutside_c2 S_i_FirstTraceOutside_c2 (args ++ List.replicate (Tryd.f76.ntmps - args.length) (.d .undef)) h (kFin env.P h.length false [.tmp 3]) :=
  fn_eq2 (mode := 0) (by kernel_rfl) Tryd.func76 (by kernel_rfl) (by kernel_rfl) dr_i_FirstTraceOutside_c2 (by kernel_rfl) (by kernel_rfl)

/-! s_ParseSystem -/
/-! s_l19Rd_of -/
noncomputable def S_s_l19Rd_of : SC := slimF Tryd.f79
noncomputable def lp_s_l19Rd_of : Nat → Code := lpOf Tryd.f79
theorem dr_s_l19Rd_of : drawsOK (codeOf Tryd.f79) = true := by kernel_rfl
theorem fn_s_l19Rd_of {L n : Nat} {args : List A} {h : H} : evCall env L (n + 1) 79 args h = kCode env (evCall env L n) L h.length [] ([]) lp_s_l19Rd_of S_s_l19Rd_of (args ++ List.replicate (Tryd.f79.ntmps - args.length) (.d .undef)) h (kFin env.P h.length false [.tmp 4]) :=
  fn_eq2 (mode := 0) (by kernel_rfl) Tryd.func79 (by kernel_rfl) (by kernel_rfl) dr_s_l19Rd_of (by kernel_rfl) (by kernel_rfl)

/-! s_l2Texts -/
/-! s_l2Random -/
noncomputable def S_s_l2Random : SC := slimF Tryd.f81
noncomputable def lp_s_l2Random : Nat → Code := lpOf Tryd.f81
theorem dr_s_l2Random : drawsOK (codeOf Tryd.f81) = true := by kernel_rfl
theorem fn_s_l2Random {L n : Nat} {args : List A} {h : H} : evCall env L (n + 1) 81 args h = kCode env (evCall env L n) L h.length [] (true :: false :: true :: true :: false :: false :: false :: false :: true :: true :: true :: true :: true :: true :: false :: false :: false :: false :: false :: false :: false :: false :: false :: false :: false :: false :: false :: false :: false :: false :: false :: false :: false :: false :: false :: false :: false :: false :: false :: false :: false :: false :: false :: false :: false :: false :: false :: false :: false :: false :: false :: false :: []) lp_s_l2Random S_s_l2Random (args ++ List.replicate (Tryd.f81.ntmps - args.length) (.d .undef)) h (kFin env.P h.length false Tryd.f81.results.toList) :=
  fn_eq2 (mode := 0) (by kernel_rfl) Tryd.func81 (by kernel_rfl) (by kernel_rfl) dr_s_l2Random (by kernel_rfl) (by kernel_rfl)
noncomputable def S_s_l2Random_0 : SC := slimL Tryd.f81 0
theorem step_s_l2Random_0 {R : Type} {call : CallF} {L nf n : Nat} {thaw : List Nat} {live m : List Bool} {s : List A} {h : H} {k : Exit → List A → H → Option R} : kLoop env call L nf thaw live (lp_s_l2Random 0) m (n + 1) s h k = kCode env call L nf thaw live lp_s_l2Random S_s_l2Random_0 s h (kNext env call L nf thaw live (lp_s_l2Random 0) m n k) :=
  kLoop_step dr_s_l2Random (by kernel_rfl)
noncomputable def S_s_l2Random_1 : SC := slimL Tryd.f81 1
theorem step_s_l2Random_1 {R : Type} {call : CallF} {L nf n : Nat} {thaw : List Nat} {live m : List Bool} {s : List A} {h : H} {k : Exit → List A → H → Option R} : kLoop env call L nf thaw live (lp_s_l2Random 1) m (n + 1) s h k = kCode env call L nf thaw live lp_s_l2Random S_s_l2Random_1 s h (kNext env call L nf thaw live (lp_s_l2Random 1) m n k) :=
  kLoop_step dr_s_l2Random (by kernel_rfl)
noncomputable def S_s_l2Random_2 : SC := slimL Tryd.f81 2
theorem step_s_l2Random_2 {R : Type} {call : CallF} {L nf n : Nat} {thaw : List Nat} {live m : List Bool} {s : List A} {h : H} {k : Exit → List A → H → Option R} : kLoop env call L nf thaw live (lp_s_l2Random 2) m (n + 1) s h k = kCode env call L nf thaw live lp_s_l2Random S_s_l2Random_2 s h (kNext env call L nf thaw live (lp_s_l2Random 2) m n k) :=
  kLoop_step dr_s_l2Random (by kernel_rfl)

/-! cmp_isNaN_int -/
noncomputable def S_cmp_isNaN_int : SC := slimF Tryd.f92
noncomputable def lp_cmp_isNaN_int : Nat → Code := lpOf Tryd.f92
theorem dr_cmp_isNaN_int : drawsOK (codeOf Tryd.f92) = true := by kernel_rfl
theorem fn_cmp_isNaN_int {L n : Nat} {args : List A} {h : H} : evCall env L (n + 1) 92 args h = kCode env (evCall env L n) L h.length [] ([]) lp_cmp_isNaN_int S_cmp_isNaN_int (args ++ List.replicate (Tryd.f92.ntmps - args.length) (.d .undef)) h (kFin env.P h.length false [.tmp 2]) :=
  fn_eq2 (mode := 1) (by kernel_rfl) Tryd.func92 (by kernel_rfl) (by kernel_rfl) dr_cmp_isNaN_int (by kernel_rfl) (by kernel_rfl)

/-! math_bits_TrailingZeros32 -/
/-! math_bits_TrailingZeros64 -/
/-! slices_rotateLeft_i_Edge -/
/-! i_firstPath_c1 -/
noncomputable def S_i_firstPath_c1 : SC := slimF Tryd.f96
noncomputable def lp_i_firstPath_c1 : Nat → Code := lpOf Tryd.f96
theorem dr_i_firstPath_c1 : drawsOK (codeOf Tryd.f96) = true := by kernel_rfl
theorem fn_i_firstPath_c1 {L n : Nat} {args : List A} {h : H} : evCall env L (n + 1) 96 args h = kCode env (evCall env L n) L h.length [0, 0, 0, 0, 0, 0, 0, 0, 0, 0, 2] (true :: true :: false :: true :: true :: true :: false :: false :: false :: true :: true :: true :: false :: false :: true :: true :: true :: false :: false :: false :: false :: false :: false :: false :: false :: false :: false :: false :: false :: false :: false :: false :: false :: false :: false :: false :: false :: false :: false :: false :: false :: false :: false :: false :: false :: false :: false :: false :: false :: false :: []) lp_i_firstPath_c1 S_i_firstPath_c1 (args ++ List.replicate (Tryd.f96.ntmps - args.length) (.d .undef)) h (kFin env.P h.length false [.tmp 9]) :=
  fn_eq2 (mode := 0) (by kernel_rfl) Tryd.func96 (by kernel_rfl) (by kernel_rfl) dr_i_firstPath_c1 (by kernel_rfl) (by kernel_rfl)
noncomputable def S_i_firstPath_c1_0 : SC := slimL Tryd.f96 0
theorem step_i_firstPath_c1_0 {R : Type} {call : CallF} {L nf n : Nat} {thaw : List Nat} {live m : List Bool} {s : List A} {h : H} {k : Exit → List A → H → Option R} : kLoop env call L nf thaw live (lp_i_firstPath_c1 0) m (n + 1) s h k = kCode env call L nf thaw live lp_i_firstPath_c1 S_i_firstPath_c1_0 s h (kNext env call L nf thaw live (lp_i_firstPath_c1 0) m n k) :=
  kLoop_step dr_i_firstPath_c1 (by kernel_rfl)

/-! i_pathWord -/
/-! s_l19Cut -/
/-! s_ParseAlphabet -/
/-! s_l19Num -/
/-! s_l2Parse -/
/-! s_FormatSystem -/
/-! s_l1Letters -/
noncomputable def S_s_l1Letters : SC := slimF Tryd.f103
noncomputable def lp_s_l1Letters : Nat → Code := lpOf Tryd.f103
theorem dr_s_l1Letters : drawsOK (codeOf Tryd.f103) = true := by kernel_rfl
theorem fn_s_l1Letters {L n : Nat} {args : List A} {h : H} : evCall env L (n + 1) 103 args h = kCode env (evCall env L n) L h.length [] (true :: false :: true :: true :: true :: false :: false :: false :: false :: false :: false :: false :: false :: false :: false :: false :: false :: false :: []) lp_s_l1Letters S_s_l1Letters (args ++ List.replicate (Tryd.f103.ntmps - args.length) (.d .undef)) h (kFin env.P h.length false [.tmp 2]) :=
  fn_eq2 (mode := 2) (by kernel_rfl) Tryd.func103 (by kernel_rfl) (by kernel_rfl) dr_s_l1Letters (by kernel_rfl) (by kernel_rfl)
noncomputable def S_s_l1Letters_0 : SC := slimL Tryd.f103 0
theorem step_s_l1Letters_0 {R : Type} {call : CallF} {L nf n : Nat} {thaw : List Nat} {live m : List Bool} {s : List A} {h : H} {k : Exit → List A → H → Option R} : kLoop env call L nf thaw live (lp_s_l1Letters 0) m (n + 1) s h k = kCode env call L nf thaw live lp_s_l1Letters S_s_l1Letters_0 s h (kNext env call L nf thaw live (lp_s_l1Letters 0) m n k) :=
  kLoop_step dr_s_l1Letters (by kernel_rfl)

/-! slices_Reverse_i_Edge_i_Edge -/
/-! s_FormatAlphabet -/
/-! s_l1At -/
/-! s_l19Dec -/
/-! s_l1Text -/
end Ev
end Go.Proofs.YtojaohcpgelhmaaDoor
