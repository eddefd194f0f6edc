/-
  Each function's code as an equation. Written by a program.
-/
import Derived.Test.YtidobgmklcbcpaaEnv
set_option maxRecDepth 100000
namespace Go.Proofs.Ytidobgmklcbcpaa
namespace Ev

/-! FnExactAddEdge -/
noncomputable def S_FnExactAddEdge : SC := slimF Try.f9
noncomputable def lp_FnExactAddEdge : Nat → Code := lpOf Try.f9
theorem dr_FnExactAddEdge : drawsOK (codeOf Try.f9) = true := by kernel_rfl
theorem fn_FnExactAddEdge {L n : Nat} {args : List A} {h : H} : evCall env L (n + 1) 9 args h = kCode env (evCall env L n) L h.length [] ([]) lp_FnExactAddEdge S_FnExactAddEdge (args ++ List.replicate (Try.f9.ntmps - args.length) (.d .undef)) h (kFin env.P h.length false [.tmp 4]) :=
  fn_eq2 (mode := 1) (by kernel_rfl) Try.func9 (by kernel_rfl) (by kernel_rfl) dr_FnExactAddEdge (by kernel_rfl) (by kernel_rfl)

/-! szSystem -/
noncomputable def S_szSystem : SC := slimF Try.f24
noncomputable def lp_szSystem : Nat → Code := lpOf Try.f24
theorem dr_szSystem : drawsOK (codeOf Try.f24) = true := by kernel_rfl
theorem fn_szSystem {L n : Nat} {args : List A} {h : H} : evCall env L (n + 1) 24 args h = kCode env (evCall env L n) L h.length [] ([]) lp_szSystem S_szSystem (args ++ List.replicate (Try.f24.ntmps - args.length) (.d .undef)) h (kFin env.P h.length false [.tmp 4]) :=
  fn_eq2 (mode := 1) (by kernel_rfl) Try.func24 (by kernel_rfl) (by kernel_rfl) dr_szSystem (by kernel_rfl) (by kernel_rfl)

/-! toSystem -/
noncomputable def S_toSystem : SC := slimF Try.f26
noncomputable def lp_toSystem : Nat → Code := lpOf Try.f26
theorem dr_toSystem : drawsOK (codeOf Try.f26) = true := by kernel_rfl
theorem fn_toSystem {L n : Nat} {args : List A} {h : H} : evCall env L (n + 1) 26 args h = kCode env (evCall env L n) L h.length [] ([]) lp_toSystem S_toSystem (args ++ List.replicate (Try.f26.ntmps - args.length) (.d .undef)) h (kFin env.P h.length true Try.f26.results.toList) :=
  fn_eq2 (mode := 2) (by kernel_rfl) Try.func26 (by kernel_rfl) (by kernel_rfl) dr_toSystem (by kernel_rfl) (by kernel_rfl)

/-! toEdge -/
noncomputable def S_toEdge : SC := slimF Try.f27
noncomputable def lp_toEdge : Nat → Code := lpOf Try.f27
theorem dr_toEdge : drawsOK (codeOf Try.f27) = true := by kernel_rfl
theorem fn_toEdge {L n : Nat} {args : List A} {h : H} : evCall env L (n + 1) 27 args h = kCode env (evCall env L n) L h.length [] ([]) lp_toEdge S_toEdge (args ++ List.replicate (Try.f27.ntmps - args.length) (.d .undef)) h (kFin env.P h.length false Try.f27.results.toList) :=
  fn_eq2 (mode := 2) (by kernel_rfl) Try.func27 (by kernel_rfl) (by kernel_rfl) dr_toEdge (by kernel_rfl) (by kernel_rfl)

/-! eqSystem -/
noncomputable def S_eqSystem : SC := slimF Try.f29
noncomputable def lp_eqSystem : Nat → Code := lpOf Try.f29
theorem dr_eqSystem : drawsOK (codeOf Try.f29) = true := by kernel_rfl
theorem fn_eqSystem {L n : Nat} {args : List A} {h : H} : evCall env L (n + 1) 29 args h = kCode env (evCall env L n) L h.length [] ([]) lp_eqSystem S_eqSystem (args ++ List.replicate (Try.f29.ntmps - args.length) (.d .undef)) h (kFin env.P h.length false [.tmp 4]) :=
  fn_eq2 (mode := 1) (by kernel_rfl) Try.func29 (by kernel_rfl) (by kernel_rfl) dr_eqSystem (by kernel_rfl) (by kernel_rfl)

/-! markSystem -/
noncomputable def S_markSystem : SC := slimF Try.f30
noncomputable def lp_markSystem : Nat → Code := lpOf Try.f30
theorem dr_markSystem : drawsOK (codeOf Try.f30) = true := by kernel_rfl
theorem fn_markSystem {L n : Nat} {args : List A} {h : H} : evCall env L (n + 1) 30 args h = kCode env (evCall env L n) L h.length [] ([]) lp_markSystem S_markSystem (args ++ List.replicate (Try.f30.ntmps - args.length) (.d .undef)) h (kFin env.P h.length false [.tmp 4]) :=
  fn_eq2 (mode := 0) (by kernel_rfl) Try.func30 (by kernel_rfl) (by kernel_rfl) dr_markSystem (by kernel_rfl) (by kernel_rfl)

/-! heldSystem -/
noncomputable def S_heldSystem : SC := slimF Try.f31
noncomputable def lp_heldSystem : Nat → Code := lpOf Try.f31
theorem dr_heldSystem : drawsOK (codeOf Try.f31) = true := by kernel_rfl
theorem fn_heldSystem {L n : Nat} {args : List A} {h : H} : evCall env L (n + 1) 31 args h = kCode env (evCall env L n) L h.length [] ([]) lp_heldSystem S_heldSystem (args ++ List.replicate (Try.f31.ntmps - args.length) (.d .undef)) h (kFin env.P h.length false [.tmp 4]) :=
  fn_eq2 (mode := 1) (by kernel_rfl) Try.func31 (by kernel_rfl) (by kernel_rfl) dr_heldSystem (by kernel_rfl) (by kernel_rfl)

/-! s_AddEdge -/
noncomputable def S_s_AddEdge : SC := slimF Try.f39
noncomputable def lp_s_AddEdge : Nat → Code := lpOf Try.f39
theorem dr_s_AddEdge : drawsOK (codeOf Try.f39) = true := by kernel_rfl
theorem fn_s_AddEdge {L n : Nat} {args : List A} {h : H} : evCall env L (n + 1) 39 args h = kCode env (evCall env L n) L h.length [] ([]) lp_s_AddEdge S_s_AddEdge (args ++ List.replicate (Try.f39.ntmps - args.length) (.d .undef)) h (kFin env.P h.length false Try.f39.results.toList) :=
  fn_eq2 (mode := 2) (by kernel_rfl) Try.func39 (by kernel_rfl) (by kernel_rfl) dr_s_AddEdge (by kernel_rfl) (by kernel_rfl)

/-! i_AddEdge -/
noncomputable def S_i_AddEdge : SC := slimF Try.f40
noncomputable def lp_i_AddEdge : Nat → Code := lpOf Try.f40
theorem dr_i_AddEdge : drawsOK (codeOf Try.f40) = true := by kernel_rfl
theorem fn_i_AddEdge {L n : Nat} {args : List A} {h : H} : evCall env L (n + 1) 40 args h = kCode env (evCall env L n) L h.length [] ([]) lp_i_AddEdge S_i_AddEdge (args ++ List.replicate (Try.f40.ntmps - args.length) (.d .undef)) h (kFin env.P h.length true Try.f40.results.toList) :=
  fn_eq2 (mode := 3) (by kernel_rfl) Try.func40 (by kernel_rfl) (by kernel_rfl) dr_i_AddEdge (by kernel_rfl) (by kernel_rfl)

/-! i_SystemValid -/
noncomputable def S_i_SystemValid : SC := slimF Try.f43
noncomputable def lp_i_SystemValid : Nat → Code := lpOf Try.f43
theorem dr_i_SystemValid : drawsOK (codeOf Try.f43) = true := by kernel_rfl
theorem fn_i_SystemValid {L n : Nat} {args : List A} {h : H} : evCall env L (n + 1) 43 args h = kCode env (evCall env L n) L h.length [] (false :: true :: true :: false :: false :: false :: false :: false :: false :: false :: false :: false :: false :: false :: false :: false :: false :: false :: false :: false :: true :: true :: true :: false :: false :: false :: false :: false :: false :: false :: false :: false :: false :: false :: false :: false :: false :: false :: false :: false :: false :: false :: false :: false :: false :: false :: false :: false :: false :: false :: false :: false :: false :: false :: false :: false :: false :: false :: false :: false :: false :: false :: false :: false :: false :: false :: false :: false :: []) lp_i_SystemValid S_i_SystemValid (args ++ List.replicate (Try.f43.ntmps - args.length) (.d .undef)) h (kFin env.P h.length false [.tmp 2]) :=
  fn_eq2 (mode := 1) (by kernel_rfl) Try.func43 (by kernel_rfl) (by kernel_rfl) dr_i_SystemValid (by kernel_rfl) (by kernel_rfl)
noncomputable def S_i_SystemValid_0 : SC := slimL Try.f43 0
theorem step_i_SystemValid_0 {R : Type} {call : CallF} {L nf n : Nat} {thaw : List Nat} {live m : List Bool} {s : List A} {h : H} {k : Exit → List A → H → Option R} : kLoop env call L nf thaw live (lp_i_SystemValid 0) m (n + 1) s h k = kCode env call L nf thaw live lp_i_SystemValid S_i_SystemValid_0 s h (kNext env call L nf thaw live (lp_i_SystemValid 0) m n k) :=
  kLoop_step dr_i_SystemValid (by kernel_rfl)

/-! i_isAlphabet -/
noncomputable def S_i_isAlphabet : SC := slimF Try.f69
noncomputable def lp_i_isAlphabet : Nat → Code := lpOf Try.f69
theorem dr_i_isAlphabet : drawsOK (codeOf Try.f69) = true := by kernel_rfl
theorem fn_i_isAlphabet {L n : Nat} {args : List A} {h : H} : evCall env L (n + 1) 69 args h = kCode env (evCall env L n) L h.length [] ([]) lp_i_isAlphabet S_i_isAlphabet (args ++ List.replicate (Try.f69.ntmps - args.length) (.d .undef)) h (kFin env.P h.length false [.tmp 2]) :=
  fn_eq2 (mode := 1) (by kernel_rfl) Try.func69 (by kernel_rfl) (by kernel_rfl) dr_i_isAlphabet (by kernel_rfl) (by kernel_rfl)

/-! s_l1Alphabet -/
noncomputable def S_s_l1Alphabet : SC := slimF Try.f72
noncomputable def lp_s_l1Alphabet : Nat → Code := lpOf Try.f72
theorem dr_s_l1Alphabet : drawsOK (codeOf Try.f72) = true := by kernel_rfl
theorem fn_s_l1Alphabet {L n : Nat} {args : List A} {h : H} : evCall env L (n + 1) 72 args h = kCode env (evCall env L n) L h.length [] ([]) lp_s_l1Alphabet S_s_l1Alphabet (args ++ List.replicate (Try.f72.ntmps - args.length) (.d .undef)) h (kFin env.P h.length false [.tmp 2]) :=
  fn_eq2 (mode := 1) (by kernel_rfl) Try.func72 (by kernel_rfl) (by kernel_rfl) dr_s_l1Alphabet (by kernel_rfl) (by kernel_rfl)

/-! s_l1Has -/
noncomputable def S_s_l1Has : SC := slimF Try.f73
noncomputable def lp_s_l1Has : Nat → Code := lpOf Try.f73
theorem dr_s_l1Has : drawsOK (codeOf Try.f73) = true := by kernel_rfl
theorem fn_s_l1Has {L n : Nat} {args : List A} {h : H} : evCall env L (n + 1) 73 args h = kCode env (evCall env L n) L h.length [] ([]) lp_s_l1Has S_s_l1Has (args ++ List.replicate (Try.f73.ntmps - args.length) (.d .undef)) h (kFin env.P h.length false [.tmp 4]) :=
  fn_eq2 (mode := 1) (by kernel_rfl) Try.func73 (by kernel_rfl) (by kernel_rfl) dr_s_l1Has (by kernel_rfl) (by kernel_rfl)

/-! i_has -/
noncomputable def S_i_has : SC := slimF Try.f76
noncomputable def lp_i_has : Nat → Code := lpOf Try.f76
theorem dr_i_has : drawsOK (codeOf Try.f76) = true := by kernel_rfl
theorem fn_i_has {L n : Nat} {args : List A} {h : H} : evCall env L (n + 1) 76 args h = kCode env (evCall env L n) L h.length [] ([]) lp_i_has S_i_has (args ++ List.replicate (Try.f76.ntmps - args.length) (.d .undef)) h (kFin env.P h.length false [.tmp 4]) :=
  fn_eq2 (mode := 1) (by kernel_rfl) Try.func76 (by kernel_rfl) (by kernel_rfl) dr_i_has (by kernel_rfl) (by kernel_rfl)

/-! szEdgeS -/
noncomputable def S_szEdgeS : SC := slimF Try.f77
noncomputable def lp_szEdgeS : Nat → Code := lpOf Try.f77
theorem dr_szEdgeS : drawsOK (codeOf Try.f77) = true := by kernel_rfl
theorem fn_szEdgeS {L n : Nat} {args : List A} {h : H} : evCall env L (n + 1) 77 args h = kCode env (evCall env L n) L h.length [] ([]) lp_szEdgeS S_szEdgeS (args ++ List.replicate (Try.f77.ntmps - args.length) (.d .undef)) h (kFin env.P h.length false [.tmp 4]) :=
  fn_eq2 (mode := 1) (by kernel_rfl) Try.func77 (by kernel_rfl) (by kernel_rfl) dr_szEdgeS (by kernel_rfl) (by kernel_rfl)

/-! s_SystemValid -/
noncomputable def S_s_SystemValid : SC := slimF Try.f78
noncomputable def lp_s_SystemValid : Nat → Code := lpOf Try.f78
theorem dr_s_SystemValid : drawsOK (codeOf Try.f78) = true := by kernel_rfl
theorem fn_s_SystemValid {L n : Nat} {args : List A} {h : H} : evCall env L (n + 1) 78 args h = kCode env (evCall env L n) L h.length [] (false :: true :: true :: true :: false :: false :: false :: false :: false :: false :: false :: false :: false :: false :: false :: false :: false :: false :: false :: false :: false :: false :: false :: false :: false :: false :: false :: false :: false :: false :: false :: false :: false :: false :: false :: false :: false :: false :: false :: false :: false :: false :: false :: false :: false :: false :: false :: false :: false :: false :: false :: false :: false :: false :: false :: []) lp_s_SystemValid S_s_SystemValid (args ++ List.replicate (Try.f78.ntmps - args.length) (.d .undef)) h (kFin env.P h.length false [.tmp 2]) :=
  fn_eq2 (mode := 1) (by kernel_rfl) Try.func78 (by kernel_rfl) (by kernel_rfl) dr_s_SystemValid (by kernel_rfl) (by kernel_rfl)
noncomputable def S_s_SystemValid_0 : SC := slimL Try.f78 0
theorem step_s_SystemValid_0 {R : Type} {call : CallF} {L nf n : Nat} {thaw : List Nat} {live m : List Bool} {s : List A} {h : H} {k : Exit → List A → H → Option R} : kLoop env call L nf thaw live (lp_s_SystemValid 0) m (n + 1) s h k = kCode env call L nf thaw live lp_s_SystemValid S_s_SystemValid_0 s h (kNext env call L nf thaw live (lp_s_SystemValid 0) m n k) :=
  kLoop_step dr_s_SystemValid (by kernel_rfl)

/-! s_l17Index -/
noncomputable def S_s_l17Index : SC := slimF Try.f79
noncomputable def lp_s_l17Index : Nat → Code := lpOf Try.f79
theorem dr_s_l17Index : drawsOK (codeOf Try.f79) = true := by kernel_rfl
theorem fn_s_l17Index {L n : Nat} {args : List A} {h : H} : evCall env L (n + 1) 79 args h = kCode env (evCall env L n) L h.length [] (true :: false :: false :: true :: true :: true :: false :: false :: false :: false :: false :: false :: false :: false :: false :: false :: false :: false :: false :: []) lp_s_l17Index S_s_l17Index (args ++ List.replicate (Try.f79.ntmps - args.length) (.d .undef)) h (kFin env.P h.length false [.tmp 4]) :=
  fn_eq2 (mode := 1) (by kernel_rfl) Try.func79 (by kernel_rfl) (by kernel_rfl) dr_s_l17Index (by kernel_rfl) (by kernel_rfl)
noncomputable def S_s_l17Index_0 : SC := slimL Try.f79 0
theorem step_s_l17Index_0 {R : Type} {call : CallF} {L nf n : Nat} {thaw : List Nat} {live m : List Bool} {s : List A} {h : H} {k : Exit → List A → H → Option R} : kLoop env call L nf thaw live (lp_s_l17Index 0) m (n + 1) s h k = kCode env call L nf thaw live lp_s_l17Index S_s_l17Index_0 s h (kNext env call L nf thaw live (lp_s_l17Index 0) m n k) :=
  kLoop_step dr_s_l17Index (by kernel_rfl)

/-! toEdgeS -/
noncomputable def S_toEdgeS : SC := slimF Try.f81
noncomputable def lp_toEdgeS : Nat → Code := lpOf Try.f81
theorem dr_toEdgeS : drawsOK (codeOf Try.f81) = true := by kernel_rfl
theorem fn_toEdgeS {L n : Nat} {args : List A} {h : H} : evCall env L (n + 1) 81 args h = kCode env (evCall env L n) L h.length [] (true :: false :: true :: true :: true :: false :: false :: false :: false :: false :: false :: false :: false :: false :: false :: false :: false :: false :: false :: false :: false :: false :: false :: []) lp_toEdgeS S_toEdgeS (args ++ List.replicate (Try.f81.ntmps - args.length) (.d .undef)) h (kFin env.P h.length true [.tmp 2]) :=
  fn_eq2 (mode := 2) (by kernel_rfl) Try.func81 (by kernel_rfl) (by kernel_rfl) dr_toEdgeS (by kernel_rfl) (by kernel_rfl)
noncomputable def S_toEdgeS_0 : SC := slimL Try.f81 0
theorem step_toEdgeS_0 {R : Type} {call : CallF} {L nf n : Nat} {thaw : List Nat} {live m : List Bool} {s : List A} {h : H} {k : Exit → List A → H → Option R} : kLoop env call L nf thaw live (lp_toEdgeS 0) m (n + 1) s h k = kCode env call L nf thaw live lp_toEdgeS S_toEdgeS_0 s h (kNext env call L nf thaw live (lp_toEdgeS 0) m n k) :=
  kLoop_step dr_toEdgeS (by kernel_rfl)

/-! slices_BinarySearchFunc_i_Edge_i_Edge_i_Edge -/
noncomputable def S_slices_BinarySearchFunc_i_Edge_i_Edge_i_Edge : SC := slimF Try.f82
noncomputable def lp_slices_BinarySearchFunc_i_Edge_i_Edge_i_Edge : Nat → Code := lpOf Try.f82
theorem dr_slices_BinarySearchFunc_i_Edge_i_Edge_i_Edge : drawsOK (codeOf Try.f82) = true := by kernel_rfl
theorem fn_slices_BinarySearchFunc_i_Edge_i_Edge_i_Edge {L n : Nat} {args : List A} {h : H} : evCall env L (n + 1) 82 args h = kCode env (evCall env L n) L h.length [] (true :: false :: true :: false :: true :: false :: true :: true :: true :: true :: true :: false :: false :: false :: false :: false :: false :: false :: false :: false :: false :: false :: false :: false :: false :: false :: false :: false :: false :: false :: false :: false :: false :: false :: false :: false :: false :: false :: false :: false :: false :: false :: false :: false :: false :: false :: false :: false :: false :: []) lp_slices_BinarySearchFunc_i_Edge_i_Edge_i_Edge S_slices_BinarySearchFunc_i_Edge_i_Edge_i_Edge (args ++ List.replicate (Try.f82.ntmps - args.length) (.d .undef)) h (kFin env.P h.length false [.tmp 6, .tmp 7]) :=
  fn_eq2 (mode := 1) (by kernel_rfl) Try.func82 (by kernel_rfl) (by kernel_rfl) dr_slices_BinarySearchFunc_i_Edge_i_Edge_i_Edge (by kernel_rfl) (by kernel_rfl)
noncomputable def S_slices_BinarySearchFunc_i_Edge_i_Edge_i_Edge_0 : SC := slimL Try.f82 0
theorem step_slices_BinarySearchFunc_i_Edge_i_Edge_i_Edge_0 {R : Type} {call : CallF} {L nf n : Nat} {thaw : List Nat} {live m : List Bool} {s : List A} {h : H} {k : Exit → List A → H → Option R} : kLoop env call L nf thaw live (lp_slices_BinarySearchFunc_i_Edge_i_Edge_i_Edge 0) m (n + 1) s h k = kCode env call L nf thaw live lp_slices_BinarySearchFunc_i_Edge_i_Edge_i_Edge S_slices_BinarySearchFunc_i_Edge_i_Edge_i_Edge_0 s h (kNext env call L nf thaw live (lp_slices_BinarySearchFunc_i_Edge_i_Edge_i_Edge 0) m n k) :=
  kLoop_step dr_slices_BinarySearchFunc_i_Edge_i_Edge_i_Edge (by kernel_rfl)

/-! i_compareEdges -/
noncomputable def S_i_compareEdges : SC := slimF Try.f83
noncomputable def lp_i_compareEdges : Nat → Code := lpOf Try.f83
theorem dr_i_compareEdges : drawsOK (codeOf Try.f83) = true := by kernel_rfl
theorem fn_i_compareEdges {L n : Nat} {args : List A} {h : H} : evCall env L (n + 1) 83 args h = kCode env (evCall env L n) L h.length [] ([]) lp_i_compareEdges S_i_compareEdges (args ++ List.replicate (Try.f83.ntmps - args.length) (.d .undef)) h (kFin env.P h.length false [.tmp 4]) :=
  fn_eq2 (mode := 1) (by kernel_rfl) Try.func83 (by kernel_rfl) (by kernel_rfl) dr_i_compareEdges (by kernel_rfl) (by kernel_rfl)

/-! slices_Clone_i_Edge_i_Edge -/
theorem prim_slices_Clone_i_Edge_i_Edge {L n : Nat} {args : List A} {h : H} : evCall env L (n + 1) 85 args h = gClone 3 args h := by
  have : env.prim 85 = some (gClone 3) := by kernel_rfl
  simp only [evCall, this]
/-! eqEdgeS -/
noncomputable def S_eqEdgeS : SC := slimF Try.f86
noncomputable def lp_eqEdgeS : Nat → Code := lpOf Try.f86
theorem dr_eqEdgeS : drawsOK (codeOf Try.f86) = true := by kernel_rfl
theorem fn_eqEdgeS {L n : Nat} {args : List A} {h : H} : evCall env L (n + 1) 86 args h = kCode env (evCall env L n) L h.length [] (true :: true :: false :: false :: true :: true :: false :: false :: false :: false :: false :: false :: false :: false :: false :: false :: false :: false :: false :: false :: false :: false :: false :: false :: false :: false :: false :: []) lp_eqEdgeS S_eqEdgeS (args ++ List.replicate (Try.f86.ntmps - args.length) (.d .undef)) h (kFin env.P h.length false [.tmp 4]) :=
  fn_eq2 (mode := 1) (by kernel_rfl) Try.func86 (by kernel_rfl) (by kernel_rfl) dr_eqEdgeS (by kernel_rfl) (by kernel_rfl)
noncomputable def S_eqEdgeS_0 : SC := slimL Try.f86 0
theorem step_eqEdgeS_0 {R : Type} {call : CallF} {L nf n : Nat} {thaw : List Nat} {live m : List Bool} {s : List A} {h : H} {k : Exit → List A → H → Option R} : kLoop env call L nf thaw live (lp_eqEdgeS 0) m (n + 1) s h k = kCode env call L nf thaw live lp_eqEdgeS S_eqEdgeS_0 s h (kNext env call L nf thaw live (lp_eqEdgeS 0) m n k) :=
  kLoop_step dr_eqEdgeS (by kernel_rfl)

/-! markEdgeS -/
noncomputable def S_markEdgeS : SC := slimF Try.f87
noncomputable def lp_markEdgeS : Nat → Code := lpOf Try.f87
theorem dr_markEdgeS : drawsOK (codeOf Try.f87) = true := by kernel_rfl
theorem fn_markEdgeS {L n : Nat} {args : List A} {h : H} : evCall env L (n + 1) 87 args h = kCode env (evCall env L n) L h.length [] (true :: true :: false :: false :: true :: true :: false :: false :: false :: false :: false :: false :: false :: false :: false :: false :: false :: false :: false :: false :: false :: false :: false :: false :: false :: false :: false :: false :: false :: false :: false :: false :: false :: false :: []) lp_markEdgeS S_markEdgeS (args ++ List.replicate (Try.f87.ntmps - args.length) (.d .undef)) h (kFin env.P h.length false [.tmp 4]) :=
  fn_eq2 (mode := 0) (by kernel_rfl) Try.func87 (by kernel_rfl) (by kernel_rfl) dr_markEdgeS (by kernel_rfl) (by kernel_rfl)
noncomputable def S_markEdgeS_0 : SC := slimL Try.f87 0
theorem step_markEdgeS_0 {R : Type} {call : CallF} {L nf n : Nat} {thaw : List Nat} {live m : List Bool} {s : List A} {h : H} {k : Exit → List A → H → Option R} : kLoop env call L nf thaw live (lp_markEdgeS 0) m (n + 1) s h k = kCode env call L nf thaw live lp_markEdgeS S_markEdgeS_0 s h (kNext env call L nf thaw live (lp_markEdgeS 0) m n k) :=
  kLoop_step dr_markEdgeS (by kernel_rfl)

/-! heldEdgeS -/
noncomputable def S_heldEdgeS : SC := slimF Try.f88
noncomputable def lp_heldEdgeS : Nat → Code := lpOf Try.f88
theorem dr_heldEdgeS : drawsOK (codeOf Try.f88) = true := by kernel_rfl
theorem fn_heldEdgeS {L n : Nat} {args : List A} {h : H} : evCall env L (n + 1) 88 args h = kCode env (evCall env L n) L h.length [] (true :: true :: false :: false :: true :: true :: false :: false :: false :: false :: false :: false :: false :: false :: false :: false :: false :: false :: false :: false :: false :: false :: false :: false :: false :: false :: false :: false :: false :: false :: false :: false :: false :: false :: false :: false :: false :: false :: false :: false :: []) lp_heldEdgeS S_heldEdgeS (args ++ List.replicate (Try.f88.ntmps - args.length) (.d .undef)) h (kFin env.P h.length false [.tmp 4]) :=
  fn_eq2 (mode := 1) (by kernel_rfl) Try.func88 (by kernel_rfl) (by kernel_rfl) dr_heldEdgeS (by kernel_rfl) (by kernel_rfl)
noncomputable def S_heldEdgeS_0 : SC := slimL Try.f88 0
theorem step_heldEdgeS_0 {R : Type} {call : CallF} {L nf n : Nat} {thaw : List Nat} {live m : List Bool} {s : List A} {h : H} {k : Exit → List A → H → Option R} : kLoop env call L nf thaw live (lp_heldEdgeS 0) m (n + 1) s h k = kCode env call L nf thaw live lp_heldEdgeS S_heldEdgeS_0 s h (kNext env call L nf thaw live (lp_heldEdgeS 0) m n k) :=
  kLoop_step dr_heldEdgeS (by kernel_rfl)

/-! s_l2Edge -/
noncomputable def S_s_l2Edge : SC := slimF Try.f104
noncomputable def lp_s_l2Edge : Nat → Code := lpOf Try.f104
theorem dr_s_l2Edge : drawsOK (codeOf Try.f104) = true := by kernel_rfl
theorem fn_s_l2Edge {L n : Nat} {args : List A} {h : H} : evCall env L (n + 1) 104 args h = kCode env (evCall env L n) L h.length [] ([]) lp_s_l2Edge S_s_l2Edge (args ++ List.replicate (Try.f104.ntmps - args.length) (.d .undef)) h (kFin env.P h.length false [.tmp 6]) :=
  fn_eq2 (mode := 1) (by kernel_rfl) Try.func104 (by kernel_rfl) (by kernel_rfl) dr_s_l2Edge (by kernel_rfl) (by kernel_rfl)

/-! s_l17Sorted -/
noncomputable def S_s_l17Sorted : SC := slimF Try.f105
noncomputable def lp_s_l17Sorted : Nat → Code := lpOf Try.f105
theorem dr_s_l17Sorted : drawsOK (codeOf Try.f105) = true := by kernel_rfl
theorem fn_s_l17Sorted {L n : Nat} {args : List A} {h : H} : evCall env L (n + 1) 105 args h = kCode env (evCall env L n) L h.length [] (true :: false :: true :: true :: true :: true :: false :: false :: false :: false :: false :: false :: false :: false :: false :: false :: false :: false :: false :: false :: false :: false :: false :: false :: false :: false :: false :: false :: false :: false :: false :: false :: false :: false :: false :: false :: false :: false :: false :: false :: false :: false :: false :: false :: false :: false :: false :: false :: []) lp_s_l17Sorted S_s_l17Sorted (args ++ List.replicate (Try.f105.ntmps - args.length) (.d .undef)) h (kFin env.P h.length false [.tmp 2]) :=
  fn_eq2 (mode := 2) (by kernel_rfl) Try.func105 (by kernel_rfl) (by kernel_rfl) dr_s_l17Sorted (by kernel_rfl) (by kernel_rfl)
noncomputable def S_s_l17Sorted_0 : SC := slimL Try.f105 0
theorem step_s_l17Sorted_0 {R : Type} {call : CallF} {L nf n : Nat} {thaw : List Nat} {live m : List Bool} {s : List A} {h : H} {k : Exit → List A → H → Option R} : kLoop env call L nf thaw live (lp_s_l17Sorted 0) m (n + 1) s h k = kCode env call L nf thaw live lp_s_l17Sorted S_s_l17Sorted_0 s h (kNext env call L nf thaw live (lp_s_l17Sorted 0) m n k) :=
  kLoop_step dr_s_l17Sorted (by kernel_rfl)
noncomputable def S_s_l17Sorted_1 : SC := slimL Try.f105 1
theorem step_s_l17Sorted_1 {R : Type} {call : CallF} {L nf n : Nat} {thaw : List Nat} {live m : List Bool} {s : List A} {h : H} {k : Exit → List A → H → Option R} : kLoop env call L nf thaw live (lp_s_l17Sorted 1) m (n + 1) s h k = kCode env call L nf thaw live lp_s_l17Sorted S_s_l17Sorted_1 s h (kNext env call L nf thaw live (lp_s_l17Sorted 1) m n k) :=
  kLoop_step dr_s_l17Sorted (by kernel_rfl)

/-! slices_Insert_i_Edge_i_Edge -/
theorem prim_slices_Insert_i_Edge_i_Edge {L n : Nat} {args : List A} {h : H} : evCall env L (n + 1) 106 args h = gInsert 3 args h := by
  have : env.prim 106 = some (gInsert 3) := by kernel_rfl
  simp only [evCall, this]
/-! i_isState -/
noncomputable def S_i_isState : SC := slimF Try.f109
noncomputable def lp_i_isState : Nat → Code := lpOf Try.f109
theorem dr_i_isState : drawsOK (codeOf Try.f109) = true := by kernel_rfl
theorem fn_i_isState {L n : Nat} {args : List A} {h : H} : evCall env L (n + 1) 109 args h = kCode env (evCall env L n) L h.length [] ([]) lp_i_isState S_i_isState (args ++ List.replicate (Try.f109.ntmps - args.length) (.d .undef)) h (kFin env.P h.length false [.tmp 4]) :=
  fn_eq2 (mode := 1) (by kernel_rfl) Try.func109 (by kernel_rfl) (by kernel_rfl) dr_i_isState (by kernel_rfl) (by kernel_rfl)

/-! s_l2Before -/
noncomputable def S_s_l2Before : SC := slimF Try.f125
noncomputable def lp_s_l2Before : Nat → Code := lpOf Try.f125
theorem dr_s_l2Before : drawsOK (codeOf Try.f125) = true := by kernel_rfl
theorem fn_s_l2Before {L n : Nat} {args : List A} {h : H} : evCall env L (n + 1) 125 args h = kCode env (evCall env L n) L h.length [] ([]) lp_s_l2Before S_s_l2Before (args ++ List.replicate (Try.f125.ntmps - args.length) (.d .undef)) h (kFin env.P h.length false [.tmp 4]) :=
  fn_eq2 (mode := 1) (by kernel_rfl) Try.func125 (by kernel_rfl) (by kernel_rfl) dr_s_l2Before (by kernel_rfl) (by kernel_rfl)

/-! cmp_Or_int -/
noncomputable def S_cmp_Or_int : SC := slimF Try.f126
noncomputable def lp_cmp_Or_int : Nat → Code := lpOf Try.f126
theorem dr_cmp_Or_int : drawsOK (codeOf Try.f126) = true := by kernel_rfl
theorem fn_cmp_Or_int {L n : Nat} {args : List A} {h : H} : evCall env L (n + 1) 126 args h = kCode env (evCall env L n) L h.length [] (false :: false :: true :: true :: false :: false :: true :: true :: true :: false :: false :: false :: false :: false :: false :: false :: false :: false :: []) lp_cmp_Or_int S_cmp_Or_int (args ++ List.replicate (Try.f126.ntmps - args.length) (.d .undef)) h (kFin env.P h.length false [.tmp 2]) :=
  fn_eq2 (mode := 1) (by kernel_rfl) Try.func126 (by kernel_rfl) (by kernel_rfl) dr_cmp_Or_int (by kernel_rfl) (by kernel_rfl)
noncomputable def S_cmp_Or_int_0 : SC := slimL Try.f126 0
theorem step_cmp_Or_int_0 {R : Type} {call : CallF} {L nf n : Nat} {thaw : List Nat} {live m : List Bool} {s : List A} {h : H} {k : Exit → List A → H → Option R} : kLoop env call L nf thaw live (lp_cmp_Or_int 0) m (n + 1) s h k = kCode env call L nf thaw live lp_cmp_Or_int S_cmp_Or_int_0 s h (kNext env call L nf thaw live (lp_cmp_Or_int 0) m n k) :=
  kLoop_step dr_cmp_Or_int (by kernel_rfl)

/-! cmp_Compare_int -/
noncomputable def S_cmp_Compare_int : SC := slimF Try.f127
noncomputable def lp_cmp_Compare_int : Nat → Code := lpOf Try.f127
theorem dr_cmp_Compare_int : drawsOK (codeOf Try.f127) = true := by kernel_rfl
theorem fn_cmp_Compare_int {L n : Nat} {args : List A} {h : H} : evCall env L (n + 1) 127 args h = kCode env (evCall env L n) L h.length [] ([]) lp_cmp_Compare_int S_cmp_Compare_int (args ++ List.replicate (Try.f127.ntmps - args.length) (.d .undef)) h (kFin env.P h.length false [.tmp 4]) :=
  fn_eq2 (mode := 1) (by kernel_rfl) Try.func127 (by kernel_rfl) (by kernel_rfl) dr_cmp_Compare_int (by kernel_rfl) (by kernel_rfl)

/-! eqEdge -/
noncomputable def S_eqEdge : SC := slimF Try.f128
noncomputable def lp_eqEdge : Nat → Code := lpOf Try.f128
theorem dr_eqEdge : drawsOK (codeOf Try.f128) = true := by kernel_rfl
theorem fn_eqEdge {L n : Nat} {args : List A} {h : H} : evCall env L (n + 1) 128 args h = kCode env (evCall env L n) L h.length [] ([]) lp_eqEdge S_eqEdge (args ++ List.replicate (Try.f128.ntmps - args.length) (.d .undef)) h (kFin env.P h.length false [.tmp 4]) :=
  fn_eq2 (mode := 1) (by kernel_rfl) Try.func128 (by kernel_rfl) (by kernel_rfl) dr_eqEdge (by kernel_rfl) (by kernel_rfl)

/-! slices_rotateRight_i_Edge -/
/-! cmp_isNaN_int -/
noncomputable def S_cmp_isNaN_int : SC := slimF Try.f151
noncomputable def lp_cmp_isNaN_int : Nat → Code := lpOf Try.f151
theorem dr_cmp_isNaN_int : drawsOK (codeOf Try.f151) = true := by kernel_rfl
theorem fn_cmp_isNaN_int {L n : Nat} {args : List A} {h : H} : evCall env L (n + 1) 151 args h = kCode env (evCall env L n) L h.length [] ([]) lp_cmp_isNaN_int S_cmp_isNaN_int (args ++ List.replicate (Try.f151.ntmps - args.length) (.d .undef)) h (kFin env.P h.length false [.tmp 2]) :=
  fn_eq2 (mode := 1) (by kernel_rfl) Try.func151 (by kernel_rfl) (by kernel_rfl) dr_cmp_isNaN_int (by kernel_rfl) (by kernel_rfl)

/-! slices_rotateLeft_i_Edge -/
/-! slices_Reverse_i_Edge_i_Edge -/
end Ev
end Go.Proofs.Ytidobgmklcbcpaa
