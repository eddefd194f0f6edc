/-
  Each function's code as an equation. Written by a program.
-/
import Derived.Test.YtidobgmklcbcpaaEnv
set_option maxRecDepth 100000
namespace Go.Proofs.Ytidobgmklcbcpaa
namespace Ev

/-! FnEdgeOnce -/
noncomputable def S_FnEdgeOnce : SC := slimF Try.f10
noncomputable def lp_FnEdgeOnce : Nat → Code := lpOf Try.f10
theorem dr_FnEdgeOnce : drawsOK (codeOf Try.f10) = true := by kernel_rfl
theorem fn_FnEdgeOnce {L n : Nat} {args : List A} {h : H} : evCall env L (n + 1) 10 args h = kCode env (evCall env L n) L h.length [] ([]) lp_FnEdgeOnce S_FnEdgeOnce (args ++ List.replicate (Try.f10.ntmps - args.length) (.d .undef)) h (kFin env.P h.length false [.tmp 2]) :=
  fn_eq2 (mode := 1) (by kernel_rfl) Try.func10 (by kernel_rfl) (by kernel_rfl) dr_FnEdgeOnce (by kernel_rfl) (by kernel_rfl)

/-! i_DropEdge -/
noncomputable def S_i_DropEdge : SC := slimF Try.f28
noncomputable def lp_i_DropEdge : Nat → Code := lpOf Try.f28
theorem dr_i_DropEdge : drawsOK (codeOf Try.f28) = true := by kernel_rfl
theorem fn_i_DropEdge {L n : Nat} {args : List A} {h : H} : evCall env L (n + 1) 28 args h = kCode env (evCall env L n) L h.length [] ([]) lp_i_DropEdge S_i_DropEdge (args ++ List.replicate (Try.f28.ntmps - args.length) (.d .undef)) h (kFin env.P h.length true Try.f28.results.toList) :=
  fn_eq2 (mode := 0) (by kernel_rfl) Try.func28 (by kernel_rfl) (by kernel_rfl) dr_i_DropEdge (by kernel_rfl) (by kernel_rfl)

/-! s_AddEdge -/
noncomputable def S_s_AddEdge : SC := slimF Try.f39
noncomputable def lp_s_AddEdge : Nat → Code := lpOf Try.f39
theorem dr_s_AddEdge : drawsOK (codeOf Try.f39) = true := by kernel_rfl
theorem fn_s_AddEdge {L n : Nat} {args : List A} {h : H} : evCall env L (n + 1) 39 args h = kCode env (evCall env L n) L h.length [] ([]) lp_s_AddEdge S_s_AddEdge (args ++ List.replicate (Try.f39.ntmps - args.length) (.d .undef)) h (kFin env.P h.length false Try.f39.results.toList) :=
  fn_eq2 (mode := 2) (by kernel_rfl) Try.func39 (by kernel_rfl) (by kernel_rfl) dr_s_AddEdge (by kernel_rfl) (by kernel_rfl)

/-! i_AddEdge -/
noncomputable def S_i_AddEdge : SC := slimF Try.f40
noncomputable def lp_i_AddEdge : Nat → Code := lpOf Try.f40
theorem dr_i_AddEdge : drawsOK (codeOf Try.f40) = true := by kernel_rfl
theorem fn_i_AddEdge {L n : Nat} {args : List A} {h : H} : evCall env L (n + 1) 40 args h = kCode env (evCall env L n) L h.length [] ([]) lp_i_AddEdge S_i_AddEdge (args ++ List.replicate (Try.f40.ntmps - args.length) (.d .undef)) h (kFin env.P h.length true Try.f40.results.toList) :=
  fn_eq2 (mode := 3) (by kernel_rfl) Try.func40 (by kernel_rfl) (by kernel_rfl) dr_i_AddEdge (by kernel_rfl) (by kernel_rfl)

/-! s_DrawAddEdge -/
noncomputable def S_s_DrawAddEdge : SC := slimF Try.f41
noncomputable def lp_s_DrawAddEdge : Nat → Code := lpOf Try.f41
theorem dr_s_DrawAddEdge : drawsOK (codeOf Try.f41) = true := by kernel_rfl
theorem fn_s_DrawAddEdge {L n : Nat} {args : List A} {h : H} : evCall env L (n + 1) 41 args h = kCode env (evCall env L n) L h.length [] ([]) lp_s_DrawAddEdge S_s_DrawAddEdge (args ++ List.replicate (Try.f41.ntmps - args.length) (.d .undef)) h (kFin env.P h.length false Try.f41.results.toList) :=
  fn_eq2 (mode := 2) (by kernel_rfl) Try.func41 (by kernel_rfl) (by kernel_rfl) dr_s_DrawAddEdge (by kernel_rfl) (by kernel_rfl)

/-! agSystems -/
noncomputable def S_agSystems : SC := slimF Try.f42
noncomputable def lp_agSystems : Nat → Code := lpOf Try.f42
theorem dr_agSystems : drawsOK (codeOf Try.f42) = true := by kernel_rfl
theorem fn_agSystems {L n : Nat} {args : List A} {h : H} : evCall env L (n + 1) 42 args h = kCode env (evCall env L n) L h.length [] (false :: false :: true :: true :: true :: true :: false :: false :: false :: false :: false :: false :: false :: false :: false :: false :: false :: false :: false :: false :: false :: false :: false :: false :: false :: false :: false :: false :: false :: false :: false :: false :: false :: false :: false :: false :: false :: false :: false :: false :: false :: false :: false :: false :: false :: []) lp_agSystems S_agSystems (args ++ List.replicate (Try.f42.ntmps - args.length) (.d .undef)) h (kFin env.P h.length false [.tmp 4]) :=
  fn_eq2 (mode := 1) (by kernel_rfl) Try.func42 (by kernel_rfl) (by kernel_rfl) dr_agSystems (by kernel_rfl) (by kernel_rfl)
noncomputable def S_agSystems_0 : SC := slimL Try.f42 0
theorem step_agSystems_0 {R : Type} {call : CallF} {L nf n : Nat} {thaw : List Nat} {live m : List Bool} {s : List A} {h : H} {k : Exit → List A → H → Option R} : kLoop env call L nf thaw live (lp_agSystems 0) m (n + 1) s h k = kCode env call L nf thaw live lp_agSystems S_agSystems_0 s h (kNext env call L nf thaw live (lp_agSystems 0) m n k) :=
  kLoop_step dr_agSystems (by kernel_rfl)

/-! i_SystemValid -/
noncomputable def S_i_SystemValid : SC := slimF Try.f43
noncomputable def lp_i_SystemValid : Nat → Code := lpOf Try.f43
theorem dr_i_SystemValid : drawsOK (codeOf Try.f43) = true := by kernel_rfl
theorem fn_i_SystemValid {L n : Nat} {args : List A} {h : H} : evCall env L (n + 1) 43 args h = kCode env (evCall env L n) L h.length [] (false :: true :: true :: false :: false :: false :: false :: false :: false :: false :: false :: false :: false :: false :: false :: false :: false :: false :: false :: false :: true :: true :: true :: false :: false :: false :: false :: false :: false :: false :: false :: false :: false :: false :: false :: false :: false :: false :: false :: false :: false :: false :: false :: false :: false :: false :: false :: false :: false :: false :: false :: false :: false :: false :: false :: false :: false :: false :: false :: false :: false :: false :: false :: false :: false :: false :: false :: false :: []) lp_i_SystemValid S_i_SystemValid (args ++ List.replicate (Try.f43.ntmps - args.length) (.d .undef)) h (kFin env.P h.length false [.tmp 2]) :=
  fn_eq2 (mode := 1) (by kernel_rfl) Try.func43 (by kernel_rfl) (by kernel_rfl) dr_i_SystemValid (by kernel_rfl) (by kernel_rfl)
noncomputable def S_i_SystemValid_0 : SC := slimL Try.f43 0
theorem step_i_SystemValid_0 {R : Type} {call : CallF} {L nf n : Nat} {thaw : List Nat} {live m : List Bool} {s : List A} {h : H} {k : Exit → List A → H → Option R} : kLoop env call L nf thaw live (lp_i_SystemValid 0) m (n + 1) s h k = kCode env call L nf thaw live lp_i_SystemValid S_i_SystemValid_0 s h (kNext env call L nf thaw live (lp_i_SystemValid 0) m n k) :=
  kLoop_step dr_i_SystemValid (by kernel_rfl)

/-! s_l1At -/
/-! s_l19Open -/
noncomputable def S_s_l19Open : SC := slimF Try.f64
noncomputable def lp_s_l19Open : Nat → Code := lpOf Try.f64
theorem dr_s_l19Open : drawsOK (codeOf Try.f64) = true := by kernel_rfl
theorem fn_s_l19Open {L n : Nat} {args : List A} {h : H} : evCall env L (n + 1) 64 args h = kCode env (evCall env L n) L h.length [] ([]) lp_s_l19Open S_s_l19Open (args ++ List.replicate (Try.f64.ntmps - args.length) (.d .undef)) h (kFin env.P h.length true [.tmp 2]) :=
  fn_eq2 (mode := 2) (by kernel_rfl) Try.func64 (by kernel_rfl) (by kernel_rfl) dr_s_l19Open (by kernel_rfl) (by kernel_rfl)

/-! i_isAlphabet -/
noncomputable def S_i_isAlphabet : SC := slimF Try.f69
noncomputable def lp_i_isAlphabet : Nat → Code := lpOf Try.f69
theorem dr_i_isAlphabet : drawsOK (codeOf Try.f69) = true := by kernel_rfl
theorem fn_i_isAlphabet {L n : Nat} {args : List A} {h : H} : evCall env L (n + 1) 69 args h = kCode env (evCall env L n) L h.length [] ([]) lp_i_isAlphabet S_i_isAlphabet (args ++ List.replicate (Try.f69.ntmps - args.length) (.d .undef)) h (kFin env.P h.length false [.tmp 2]) :=
  fn_eq2 (mode := 1) (by kernel_rfl) Try.func69 (by kernel_rfl) (by kernel_rfl) dr_i_isAlphabet (by kernel_rfl) (by kernel_rfl)

/-! s_l1Alphabet -/
noncomputable def S_s_l1Alphabet : SC := slimF Try.f72
noncomputable def lp_s_l1Alphabet : Nat → Code := lpOf Try.f72
theorem dr_s_l1Alphabet : drawsOK (codeOf Try.f72) = true := by kernel_rfl
theorem fn_s_l1Alphabet {L n : Nat} {args : List A} {h : H} : evCall env L (n + 1) 72 args h = kCode env (evCall env L n) L h.length [] ([]) lp_s_l1Alphabet S_s_l1Alphabet (args ++ List.replicate (Try.f72.ntmps - args.length) (.d .undef)) h (kFin env.P h.length false [.tmp 2]) :=
  fn_eq2 (mode := 1) (by kernel_rfl) Try.func72 (by kernel_rfl) (by kernel_rfl) dr_s_l1Alphabet (by kernel_rfl) (by kernel_rfl)

/-! s_l1Has -/
noncomputable def S_s_l1Has : SC := slimF Try.f73
noncomputable def lp_s_l1Has : Nat → Code := lpOf Try.f73
theorem dr_s_l1Has : drawsOK (codeOf Try.f73) = true := by kernel_rfl
theorem fn_s_l1Has {L n : Nat} {args : List A} {h : H} : evCall env L (n + 1) 73 args h = kCode env (evCall env L n) L h.length [] ([]) lp_s_l1Has S_s_l1Has (args ++ List.replicate (Try.f73.ntmps - args.length) (.d .undef)) h (kFin env.P h.length false [.tmp 4]) :=
  fn_eq2 (mode := 1) (by kernel_rfl) Try.func73 (by kernel_rfl) (by kernel_rfl) dr_s_l1Has (by kernel_rfl) (by kernel_rfl)

/-! i_has -/
noncomputable def S_i_has : SC := slimF Try.f76
noncomputable def lp_i_has : Nat → Code := lpOf Try.f76
theorem dr_i_has : drawsOK (codeOf Try.f76) = true := by kernel_rfl
theorem fn_i_has {L n : Nat} {args : List A} {h : H} : evCall env L (n + 1) 76 args h = kCode env (evCall env L n) L h.length [] ([]) lp_i_has S_i_has (args ++ List.replicate (Try.f76.ntmps - args.length) (.d .undef)) h (kFin env.P h.length false [.tmp 4]) :=
  fn_eq2 (mode := 1) (by kernel_rfl) Try.func76 (by kernel_rfl) (by kernel_rfl) dr_i_has (by kernel_rfl) (by kernel_rfl)

/-! s_SystemValid -/
noncomputable def S_s_SystemValid : SC := slimF Try.f78
noncomputable def lp_s_SystemValid : Nat → Code := lpOf Try.f78
theorem dr_s_SystemValid : drawsOK (codeOf Try.f78) = true := by kernel_rfl
theorem fn_s_SystemValid {L n : Nat} {args : List A} {h : H} : evCall env L (n + 1) 78 args h = kCode env (evCall env L n) L h.length [] (false :: true :: true :: true :: false :: false :: false :: false :: false :: false :: false :: false :: false :: false :: false :: false :: false :: false :: false :: false :: false :: false :: false :: false :: false :: false :: false :: false :: false :: false :: false :: false :: false :: false :: false :: false :: false :: false :: false :: false :: false :: false :: false :: false :: false :: false :: false :: false :: false :: false :: false :: false :: false :: false :: false :: []) lp_s_SystemValid S_s_SystemValid (args ++ List.replicate (Try.f78.ntmps - args.length) (.d .undef)) h (kFin env.P h.length false [.tmp 2]) :=
  fn_eq2 (mode := 1) (by kernel_rfl) Try.func78 (by kernel_rfl) (by kernel_rfl) dr_s_SystemValid (by kernel_rfl) (by kernel_rfl)
noncomputable def S_s_SystemValid_0 : SC := slimL Try.f78 0
theorem step_s_SystemValid_0 {R : Type} {call : CallF} {L nf n : Nat} {thaw : List Nat} {live m : List Bool} {s : List A} {h : H} {k : Exit → List A → H → Option R} : kLoop env call L nf thaw live (lp_s_SystemValid 0) m (n + 1) s h k = kCode env call L nf thaw live lp_s_SystemValid S_s_SystemValid_0 s h (kNext env call L nf thaw live (lp_s_SystemValid 0) m n k) :=
  kLoop_step dr_s_SystemValid (by kernel_rfl)

/-! s_l17Index -/
noncomputable def S_s_l17Index : SC := slimF Try.f79
noncomputable def lp_s_l17Index : Nat → Code := lpOf Try.f79
theorem dr_s_l17Index : drawsOK (codeOf Try.f79) = true := by kernel_rfl
theorem fn_s_l17Index {L n : Nat} {args : List A} {h : H} : evCall env L (n + 1) 79 args h = kCode env (evCall env L n) L h.length [] (true :: false :: false :: true :: true :: true :: false :: false :: false :: false :: false :: false :: false :: false :: false :: false :: false :: false :: false :: []) lp_s_l17Index S_s_l17Index (args ++ List.replicate (Try.f79.ntmps - args.length) (.d .undef)) h (kFin env.P h.length false [.tmp 4]) :=
  fn_eq2 (mode := 1) (by kernel_rfl) Try.func79 (by kernel_rfl) (by kernel_rfl) dr_s_l17Index (by kernel_rfl) (by kernel_rfl)
noncomputable def S_s_l17Index_0 : SC := slimL Try.f79 0
theorem step_s_l17Index_0 {R : Type} {call : CallF} {L nf n : Nat} {thaw : List Nat} {live m : List Bool} {s : List A} {h : H} {k : Exit → List A → H → Option R} : kLoop env call L nf thaw live (lp_s_l17Index 0) m (n + 1) s h k = kCode env call L nf thaw live lp_s_l17Index S_s_l17Index_0 s h (kNext env call L nf thaw live (lp_s_l17Index 0) m n k) :=
  kLoop_step dr_s_l17Index (by kernel_rfl)

/-! slices_BinarySearchFunc_i_Edge_i_Edge_i_Edge -/
noncomputable def S_slices_BinarySearchFunc_i_Edge_i_Edge_i_Edge : SC := slimF Try.f82
noncomputable def lp_slices_BinarySearchFunc_i_Edge_i_Edge_i_Edge : Nat → Code := lpOf Try.f82
theorem dr_slices_BinarySearchFunc_i_Edge_i_Edge_i_Edge : drawsOK (codeOf Try.f82) = true := by kernel_rfl
theorem fn_slices_BinarySearchFunc_i_Edge_i_Edge_i_Edge {L n : Nat} {args : List A} {h : H} : evCall env L (n + 1) 82 args h = kCode env (evCall env L n) L h.length [] (true :: false :: true :: false :: true :: false :: true :: true :: true :: true :: true :: false :: false :: false :: false :: false :: false :: false :: false :: false :: false :: false :: false :: false :: false :: false :: false :: false :: false :: false :: false :: false :: false :: false :: false :: false :: false :: false :: false :: false :: false :: false :: false :: false :: false :: false :: false :: false :: false :: []) lp_slices_BinarySearchFunc_i_Edge_i_Edge_i_Edge S_slices_BinarySearchFunc_i_Edge_i_Edge_i_Edge (args ++ List.replicate (Try.f82.ntmps - args.length) (.d .undef)) h (kFin env.P h.length false [.tmp 6, .tmp 7]) :=
  fn_eq2 (mode := 1) (by kernel_rfl) Try.func82 (by kernel_rfl) (by kernel_rfl) dr_slices_BinarySearchFunc_i_Edge_i_Edge_i_Edge (by kernel_rfl) (by kernel_rfl)
noncomputable def S_slices_BinarySearchFunc_i_Edge_i_Edge_i_Edge_0 : SC := slimL Try.f82 0
theorem step_slices_BinarySearchFunc_i_Edge_i_Edge_i_Edge_0 {R : Type} {call : CallF} {L nf n : Nat} {thaw : List Nat} {live m : List Bool} {s : List A} {h : H} {k : Exit → List A → H → Option R} : kLoop env call L nf thaw live (lp_slices_BinarySearchFunc_i_Edge_i_Edge_i_Edge 0) m (n + 1) s h k = kCode env call L nf thaw live lp_slices_BinarySearchFunc_i_Edge_i_Edge_i_Edge S_slices_BinarySearchFunc_i_Edge_i_Edge_i_Edge_0 s h (kNext env call L nf thaw live (lp_slices_BinarySearchFunc_i_Edge_i_Edge_i_Edge 0) m n k) :=
  kLoop_step dr_slices_BinarySearchFunc_i_Edge_i_Edge_i_Edge (by kernel_rfl)

/-! i_compareEdges -/
noncomputable def S_i_compareEdges : SC := slimF Try.f83
noncomputable def lp_i_compareEdges : Nat → Code := lpOf Try.f83
theorem dr_i_compareEdges : drawsOK (codeOf Try.f83) = true := by kernel_rfl
theorem fn_i_compareEdges {L n : Nat} {args : List A} {h : H} : evCall env L (n + 1) 83 args h = kCode env (evCall env L n) L h.length [] ([]) lp_i_compareEdges S_i_compareEdges (args ++ List.replicate (Try.f83.ntmps - args.length) (.d .undef)) h (kFin env.P h.length false [.tmp 4]) :=
  fn_eq2 (mode := 1) (by kernel_rfl) Try.func83 (by kernel_rfl) (by kernel_rfl) dr_i_compareEdges (by kernel_rfl) (by kernel_rfl)

/-! slices_Delete_i_Edge_i_Edge -/
theorem prim_slices_Delete_i_Edge_i_Edge {L n : Nat} {args : List A} {h : H} : evCall env L (n + 1) 84 args h = gDelete 3 args h := by
  have : env.prim 84 = some (gDelete 3) := by kernel_rfl
  simp only [evCall, this]
/-! slices_Clone_i_Edge_i_Edge -/
theorem prim_slices_Clone_i_Edge_i_Edge {L n : Nat} {args : List A} {h : H} : evCall env L (n + 1) 85 args h = gClone 3 args h := by
  have : env.prim 85 = some (gClone 3) := by kernel_rfl
  simp only [evCall, this]
/-! s_l1Letters -/
noncomputable def S_s_l1Letters : SC := slimF Try.f92
noncomputable def lp_s_l1Letters : Nat → Code := lpOf Try.f92
theorem dr_s_l1Letters : drawsOK (codeOf Try.f92) = true := by kernel_rfl
theorem fn_s_l1Letters {L n : Nat} {args : List A} {h : H} : evCall env L (n + 1) 92 args h = kCode env (evCall env L n) L h.length [] (true :: false :: true :: true :: true :: false :: false :: false :: false :: false :: false :: false :: false :: false :: false :: false :: false :: false :: []) lp_s_l1Letters S_s_l1Letters (args ++ List.replicate (Try.f92.ntmps - args.length) (.d .undef)) h (kFin env.P h.length false [.tmp 2]) :=
  fn_eq2 (mode := 2) (by kernel_rfl) Try.func92 (by kernel_rfl) (by kernel_rfl) dr_s_l1Letters (by kernel_rfl) (by kernel_rfl)
noncomputable def S_s_l1Letters_0 : SC := slimL Try.f92 0
theorem step_s_l1Letters_0 {R : Type} {call : CallF} {L nf n : Nat} {thaw : List Nat} {live m : List Bool} {s : List A} {h : H} {k : Exit → List A → H → Option R} : kLoop env call L nf thaw live (lp_s_l1Letters 0) m (n + 1) s h k = kCode env call L nf thaw live lp_s_l1Letters S_s_l1Letters_0 s h (kNext env call L nf thaw live (lp_s_l1Letters 0) m n k) :=
  kLoop_step dr_s_l1Letters (by kernel_rfl)

/-! s_l2Edge -/
noncomputable def S_s_l2Edge : SC := slimF Try.f104
noncomputable def lp_s_l2Edge : Nat → Code := lpOf Try.f104
theorem dr_s_l2Edge : drawsOK (codeOf Try.f104) = true := by kernel_rfl
theorem fn_s_l2Edge {L n : Nat} {args : List A} {h : H} : evCall env L (n + 1) 104 args h = kCode env (evCall env L n) L h.length [] ([]) lp_s_l2Edge S_s_l2Edge (args ++ List.replicate (Try.f104.ntmps - args.length) (.d .undef)) h (kFin env.P h.length false [.tmp 6]) :=
  fn_eq2 (mode := 1) (by kernel_rfl) Try.func104 (by kernel_rfl) (by kernel_rfl) dr_s_l2Edge (by kernel_rfl) (by kernel_rfl)

/-! s_l17Sorted -/
noncomputable def S_s_l17Sorted : SC := slimF Try.f105
noncomputable def lp_s_l17Sorted : Nat → Code := lpOf Try.f105
theorem dr_s_l17Sorted : drawsOK (codeOf Try.f105) = true := by kernel_rfl
theorem fn_s_l17Sorted {L n : Nat} {args : List A} {h : H} : evCall env L (n + 1) 105 args h = kCode env (evCall env L n) L h.length [] (true :: false :: true :: true :: true :: true :: false :: false :: false :: false :: false :: false :: false :: false :: false :: false :: false :: false :: false :: false :: false :: false :: false :: false :: false :: false :: false :: false :: false :: false :: false :: false :: false :: false :: false :: false :: false :: false :: false :: false :: false :: false :: false :: false :: false :: false :: false :: false :: []) lp_s_l17Sorted S_s_l17Sorted (args ++ List.replicate (Try.f105.ntmps - args.length) (.d .undef)) h (kFin env.P h.length false [.tmp 2]) :=
  fn_eq2 (mode := 2) (by kernel_rfl) Try.func105 (by kernel_rfl) (by kernel_rfl) dr_s_l17Sorted (by kernel_rfl) (by kernel_rfl)
noncomputable def S_s_l17Sorted_0 : SC := slimL Try.f105 0
theorem step_s_l17Sorted_0 {R : Type} {call : CallF} {L nf n : Nat} {thaw : List Nat} {live m : List Bool} {s : List A} {h : H} {k : Exit → List A → H → Option R} : kLoop env call L nf thaw live (lp_s_l17Sorted 0) m (n + 1) s h k = kCode env call L nf thaw live lp_s_l17Sorted S_s_l17Sorted_0 s h (kNext env call L nf thaw live (lp_s_l17Sorted 0) m n k) :=
  kLoop_step dr_s_l17Sorted (by kernel_rfl)
noncomputable def S_s_l17Sorted_1 : SC := slimL Try.f105 1
theorem step_s_l17Sorted_1 {R : Type} {call : CallF} {L nf n : Nat} {thaw : List Nat} {live m : List Bool} {s : List A} {h : H} {k : Exit → List A → H → Option R} : kLoop env call L nf thaw live (lp_s_l17Sorted 1) m (n + 1) s h k = kCode env call L nf thaw live lp_s_l17Sorted S_s_l17Sorted_1 s h (kNext env call L nf thaw live (lp_s_l17Sorted 1) m n k) :=
  kLoop_step dr_s_l17Sorted (by kernel_rfl)

/-! slices_Insert_i_Edge_i_Edge -/
theorem prim_slices_Insert_i_Edge_i_Edge {L n : Nat} {args : List A} {h : H} : evCall env L (n + 1) 106 args h = gInsert 3 args h := by
  have : env.prim 106 = some (gInsert 3) := by kernel_rfl
  simp only [evCall, this]
/-! s_l2Any -/
noncomputable def S_s_l2Any : SC := slimF Try.f107
noncomputable def lp_s_l2Any : Nat → Code := lpOf Try.f107
theorem dr_s_l2Any : drawsOK (codeOf Try.f107) = true := by kernel_rfl
theorem fn_s_l2Any {L n : Nat} {args : List A} {h : H} : evCall env L (n + 1) 107 args h = kCode env (evCall env L n) L h.length [] ([]) lp_s_l2Any S_s_l2Any (args ++ List.replicate (Try.f107.ntmps - args.length) (.d .undef)) h (kFin env.P h.length false Try.f107.results.toList) :=
  fn_eq2 (mode := 0) (by kernel_rfl) Try.func107 (by kernel_rfl) (by kernel_rfl) dr_s_l2Any (by kernel_rfl) (by kernel_rfl)

/-! s_l17Edge -/
noncomputable def S_s_l17Edge : SC := slimF Try.f108
noncomputable def lp_s_l17Edge : Nat → Code := lpOf Try.f108
theorem dr_s_l17Edge : drawsOK (codeOf Try.f108) = true := by kernel_rfl
theorem fn_s_l17Edge {L n : Nat} {args : List A} {h : H} : evCall env L (n + 1) 108 args h = kCode env (evCall env L n) L h.length [] ([]) lp_s_l17Edge S_s_l17Edge (args ++ List.replicate (Try.f108.ntmps - args.length) (.d .undef)) h (kFin env.P h.length false Try.f108.results.toList) :=
  fn_eq2 (mode := 0) (by kernel_rfl) Try.func108 (by kernel_rfl) (by kernel_rfl) dr_s_l17Edge (by kernel_rfl) (by kernel_rfl)

/-! i_isState -/
noncomputable def S_i_isState : SC := slimF Try.f109
noncomputable def lp_i_isState : Nat → Code := lpOf Try.f109
theorem dr_i_isState : drawsOK (codeOf Try.f109) = true := by kernel_rfl
theorem fn_i_isState {L n : Nat} {args : List A} {h : H} : evCall env L (n + 1) 109 args h = kCode env (evCall env L n) L h.length [] ([]) lp_i_isState S_i_isState (args ++ List.replicate (Try.f109.ntmps - args.length) (.d .undef)) h (kFin env.P h.length false [.tmp 4]) :=
  fn_eq2 (mode := 1) (by kernel_rfl) Try.func109 (by kernel_rfl) (by kernel_rfl) dr_i_isState (by kernel_rfl) (by kernel_rfl)

/-! s_l19Rd_pick -/
noncomputable def S_s_l19Rd_pick : SC := slimF Try.f120
noncomputable def lp_s_l19Rd_pick : Nat → Code := lpOf Try.f120
theorem dr_s_l19Rd_pick : drawsOK (codeOf Try.f120) = true := by kernel_rfl
theorem fn_s_l19Rd_pick {L n : Nat} {args : List A} {h : H} : evCall env L (n + 1) 120 args h = kCode env (evCall env L n) L h.length [] ([]) lp_s_l19Rd_pick S_s_l19Rd_pick (args ++ List.replicate (Try.f120.ntmps - args.length) (.d .undef)) h (kFin env.P h.length false [.tmp 4]) :=
  fn_eq2 (mode := 0) (by kernel_rfl) Try.func120 (by kernel_rfl) (by kernel_rfl) dr_s_l19Rd_pick (by kernel_rfl) (by kernel_rfl)

/-! s_l19Rd_of -/
noncomputable def S_s_l19Rd_of : SC := slimF Try.f121
noncomputable def lp_s_l19Rd_of : Nat → Code := lpOf Try.f121
theorem dr_s_l19Rd_of : drawsOK (codeOf Try.f121) = true := by kernel_rfl
theorem fn_s_l19Rd_of {L n : Nat} {args : List A} {h : H} : evCall env L (n + 1) 121 args h = kCode env (evCall env L n) L h.length [] ([]) lp_s_l19Rd_of S_s_l19Rd_of (args ++ List.replicate (Try.f121.ntmps - args.length) (.d .undef)) h (kFin env.P h.length false [.tmp 4]) :=
  fn_eq2 (mode := 0) (by kernel_rfl) Try.func121 (by kernel_rfl) (by kernel_rfl) dr_s_l19Rd_of (by kernel_rfl) (by kernel_rfl)

/-! s_l19Rd_num -/
noncomputable def S_s_l19Rd_num : SC := slimF Try.f123
noncomputable def lp_s_l19Rd_num : Nat → Code := lpOf Try.f123
theorem dr_s_l19Rd_num : drawsOK (codeOf Try.f123) = true := by kernel_rfl
theorem fn_s_l19Rd_num {L n : Nat} {args : List A} {h : H} : evCall env L (n + 1) 123 args h = kCode env (evCall env L n) L h.length [] ([]) lp_s_l19Rd_num S_s_l19Rd_num (args ++ List.replicate (Try.f123.ntmps - args.length) (.d .undef)) h (kFin env.P h.length false [.tmp 4]) :=
  fn_eq2 (mode := 0) (by kernel_rfl) Try.func123 (by kernel_rfl) (by kernel_rfl) dr_s_l19Rd_num (by kernel_rfl) (by kernel_rfl)

/-! s_l1Text -/
/-! s_l2Before -/
noncomputable def S_s_l2Before : SC := slimF Try.f125
noncomputable def lp_s_l2Before : Nat → Code := lpOf Try.f125
theorem dr_s_l2Before : drawsOK (codeOf Try.f125) = true := by kernel_rfl
theorem fn_s_l2Before {L n : Nat} {args : List A} {h : H} : evCall env L (n + 1) 125 args h = kCode env (evCall env L n) L h.length [] ([]) lp_s_l2Before S_s_l2Before (args ++ List.replicate (Try.f125.ntmps - args.length) (.d .undef)) h (kFin env.P h.length false [.tmp 4]) :=
  fn_eq2 (mode := 1) (by kernel_rfl) Try.func125 (by kernel_rfl) (by kernel_rfl) dr_s_l2Before (by kernel_rfl) (by kernel_rfl)

/-! cmp_Or_int -/
noncomputable def S_cmp_Or_int : SC := slimF Try.f126
noncomputable def lp_cmp_Or_int : Nat → Code := lpOf Try.f126
theorem dr_cmp_Or_int : drawsOK (codeOf Try.f126) = true := by kernel_rfl
theorem fn_cmp_Or_int {L n : Nat} {args : List A} {h : H} : evCall env L (n + 1) 126 args h = kCode env (evCall env L n) L h.length [] (false :: false :: true :: true :: false :: false :: true :: true :: true :: false :: false :: false :: false :: false :: false :: false :: false :: false :: []) lp_cmp_Or_int S_cmp_Or_int (args ++ List.replicate (Try.f126.ntmps - args.length) (.d .undef)) h (kFin env.P h.length false [.tmp 2]) :=
  fn_eq2 (mode := 1) (by kernel_rfl) Try.func126 (by kernel_rfl) (by kernel_rfl) dr_cmp_Or_int (by kernel_rfl) (by kernel_rfl)
noncomputable def S_cmp_Or_int_0 : SC := slimL Try.f126 0
theorem step_cmp_Or_int_0 {R : Type} {call : CallF} {L nf n : Nat} {thaw : List Nat} {live m : List Bool} {s : List A} {h : H} {k : Exit → List A → H → Option R} : kLoop env call L nf thaw live (lp_cmp_Or_int 0) m (n + 1) s h k = kCode env call L nf thaw live lp_cmp_Or_int S_cmp_Or_int_0 s h (kNext env call L nf thaw live (lp_cmp_Or_int 0) m n k) :=
  kLoop_step dr_cmp_Or_int (by kernel_rfl)

/-! cmp_Compare_int -/
noncomputable def S_cmp_Compare_int : SC := slimF Try.f127
noncomputable def lp_cmp_Compare_int : Nat → Code := lpOf Try.f127
theorem dr_cmp_Compare_int : drawsOK (codeOf Try.f127) = true := by kernel_rfl
theorem fn_cmp_Compare_int {L n : Nat} {args : List A} {h : H} : evCall env L (n + 1) 127 args h = kCode env (evCall env L n) L h.length [] ([]) lp_cmp_Compare_int S_cmp_Compare_int (args ++ List.replicate (Try.f127.ntmps - args.length) (.d .undef)) h (kFin env.P h.length false [.tmp 4]) :=
  fn_eq2 (mode := 1) (by kernel_rfl) Try.func127 (by kernel_rfl) (by kernel_rfl) dr_cmp_Compare_int (by kernel_rfl) (by kernel_rfl)

/-! slices_rotateRight_i_Edge -/
/-! s_l2Big -/
noncomputable def S_s_l2Big : SC := slimF Try.f138
noncomputable def lp_s_l2Big : Nat → Code := lpOf Try.f138
theorem dr_s_l2Big : drawsOK (codeOf Try.f138) = true := by kernel_rfl
theorem fn_s_l2Big {L n : Nat} {args : List A} {h : H} : evCall env L (n + 1) 138 args h = kCode env (evCall env L n) L h.length [] (true :: false :: true :: true :: true :: false :: false :: false :: false :: false :: false :: false :: false :: false :: false :: false :: false :: false :: false :: false :: false :: false :: false :: false :: false :: false :: false :: false :: false :: false :: false :: false :: false :: false :: false :: false :: false :: false :: false :: []) lp_s_l2Big S_s_l2Big (args ++ List.replicate (Try.f138.ntmps - args.length) (.d .undef)) h (kFin env.P h.length false Try.f138.results.toList) :=
  fn_eq2 (mode := 0) (by kernel_rfl) Try.func138 (by kernel_rfl) (by kernel_rfl) dr_s_l2Big (by kernel_rfl) (by kernel_rfl)
noncomputable def S_s_l2Big_0 : SC := slimL Try.f138 0
theorem step_s_l2Big_0 {R : Type} {call : CallF} {L nf n : Nat} {thaw : List Nat} {live m : List Bool} {s : List A} {h : H} {k : Exit → List A → H → Option R} : kLoop env call L nf thaw live (lp_s_l2Big 0) m (n + 1) s h k = kCode env call L nf thaw live lp_s_l2Big S_s_l2Big_0 s h (kNext env call L nf thaw live (lp_s_l2Big 0) m n k) :=
  kLoop_step dr_s_l2Big (by kernel_rfl)

/-! s_l2Wrong -/
noncomputable def S_s_l2Wrong : SC := slimF Try.f139
noncomputable def lp_s_l2Wrong : Nat → Code := lpOf Try.f139
theorem dr_s_l2Wrong : drawsOK (codeOf Try.f139) = true := by kernel_rfl
theorem fn_s_l2Wrong {L n : Nat} {args : List A} {h : H} : evCall env L (n + 1) 139 args h = kCode env (evCall env L n) L h.length [] ([]) lp_s_l2Wrong S_s_l2Wrong (args ++ List.replicate (Try.f139.ntmps - args.length) (.d .undef)) h (kFin env.P h.length false Try.f139.results.toList) :=
  fn_eq2 (mode := 0) (by kernel_rfl) Try.func139 (by kernel_rfl) (by kernel_rfl) dr_s_l2Wrong (by kernel_rfl) (by kernel_rfl)

/-! s_l2Draw -/
noncomputable def S_s_l2Draw : SC := slimF Try.f140
noncomputable def lp_s_l2Draw : Nat → Code := lpOf Try.f140
theorem dr_s_l2Draw : drawsOK (codeOf Try.f140) = true := by kernel_rfl
theorem fn_s_l2Draw {L n : Nat} {args : List A} {h : H} : evCall env L (n + 1) 140 args h = kCode env (evCall env L n) L h.length [] ([]) lp_s_l2Draw S_s_l2Draw (args ++ List.replicate (Try.f140.ntmps - args.length) (.d .undef)) h (kFin env.P h.length false Try.f140.results.toList) :=
  fn_eq2 (mode := 0) (by kernel_rfl) Try.func140 (by kernel_rfl) (by kernel_rfl) dr_s_l2Draw (by kernel_rfl) (by kernel_rfl)

/-! cmp_isNaN_int -/
noncomputable def S_cmp_isNaN_int : SC := slimF Try.f151
noncomputable def lp_cmp_isNaN_int : Nat → Code := lpOf Try.f151
theorem dr_cmp_isNaN_int : drawsOK (codeOf Try.f151) = true := by kernel_rfl
theorem fn_cmp_isNaN_int {L n : Nat} {args : List A} {h : H} : evCall env L (n + 1) 151 args h = kCode env (evCall env L n) L h.length [] ([]) lp_cmp_isNaN_int S_cmp_isNaN_int (args ++ List.replicate (Try.f151.ntmps - args.length) (.d .undef)) h (kFin env.P h.length false [.tmp 2]) :=
  fn_eq2 (mode := 1) (by kernel_rfl) Try.func151 (by kernel_rfl) (by kernel_rfl) dr_cmp_isNaN_int (by kernel_rfl) (by kernel_rfl)

/-! slices_rotateLeft_i_Edge -/
/-! s_ParseSystem -/
/-! s_l2Texts -/
/-! s_l2Random -/
noncomputable def S_s_l2Random : SC := slimF Try.f155
noncomputable def lp_s_l2Random : Nat → Code := lpOf Try.f155
theorem dr_s_l2Random : drawsOK (codeOf Try.f155) = true := by kernel_rfl
theorem fn_s_l2Random {L n : Nat} {args : List A} {h : H} : evCall env L (n + 1) 155 args h = kCode env (evCall env L n) L h.length [] (true :: false :: true :: true :: false :: false :: false :: false :: true :: true :: true :: true :: true :: true :: false :: false :: false :: false :: false :: false :: false :: false :: false :: false :: false :: false :: false :: false :: false :: false :: false :: false :: false :: false :: false :: false :: false :: false :: false :: false :: false :: false :: false :: false :: false :: false :: false :: false :: false :: false :: false :: false :: []) lp_s_l2Random S_s_l2Random (args ++ List.replicate (Try.f155.ntmps - args.length) (.d .undef)) h (kFin env.P h.length false Try.f155.results.toList) :=
  fn_eq2 (mode := 0) (by kernel_rfl) Try.func155 (by kernel_rfl) (by kernel_rfl) dr_s_l2Random (by kernel_rfl) (by kernel_rfl)
noncomputable def S_s_l2Random_0 : SC := slimL Try.f155 0
theorem step_s_l2Random_0 {R : Type} {call : CallF} {L nf n : Nat} {thaw : List Nat} {live m : List Bool} {s : List A} {h : H} {k : Exit → List A → H → Option R} : kLoop env call L nf thaw live (lp_s_l2Random 0) m (n + 1) s h k = kCode env call L nf thaw live lp_s_l2Random S_s_l2Random_0 s h (kNext env call L nf thaw live (lp_s_l2Random 0) m n k) :=
  kLoop_step dr_s_l2Random (by kernel_rfl)
noncomputable def S_s_l2Random_1 : SC := slimL Try.f155 1
theorem step_s_l2Random_1 {R : Type} {call : CallF} {L nf n : Nat} {thaw : List Nat} {live m : List Bool} {s : List A} {h : H} {k : Exit → List A → H → Option R} : kLoop env call L nf thaw live (lp_s_l2Random 1) m (n + 1) s h k = kCode env call L nf thaw live lp_s_l2Random S_s_l2Random_1 s h (kNext env call L nf thaw live (lp_s_l2Random 1) m n k) :=
  kLoop_step dr_s_l2Random (by kernel_rfl)
noncomputable def S_s_l2Random_2 : SC := slimL Try.f155 2
theorem step_s_l2Random_2 {R : Type} {call : CallF} {L nf n : Nat} {thaw : List Nat} {live m : List Bool} {s : List A} {h : H} {k : Exit → List A → H → Option R} : kLoop env call L nf thaw live (lp_s_l2Random 2) m (n + 1) s h k = kCode env call L nf thaw live lp_s_l2Random S_s_l2Random_2 s h (kNext env call L nf thaw live (lp_s_l2Random 2) m n k) :=
  kLoop_step dr_s_l2Random (by kernel_rfl)

/-! slices_Reverse_i_Edge_i_Edge -/
/-! s_l19Cut -/
/-! s_ParseAlphabet -/
/-! s_l19Num -/
/-! s_l2Parse -/
/-! s_FormatSystem -/
/-! s_FormatAlphabet -/
/-! s_l19Dec -/
end Ev
end Go.Proofs.Ytidobgmklcbcpaa
