/-
  What the evaluator is told of each function, and each function's code as an equation. Written by a program.
-/
import Derived.Test.YtidobgmklcbcpaaEvSym
import Derived.Test.YtidobgmklcbcpaaEvPrim
import Derived.Test.YtidobgmklcbcpaaChecked
set_option maxRecDepth 100000
namespace Go.Proofs.Ytidobgmklcbcpaa
namespace Ev

/-- Truth values as the bits of a number. -/
def bitsL : Nat → Nat → List Bool
  | 0, _ => []
  | n + 1, k => (k % 2 == 1) :: bitsL n (k / 2)

noncomputable def hints : List (Nat × Hint) := [
  (10, { mode := 1, exp := false, thaw := [], live := bitsL 0 0 }),
  (28, { mode := 0, exp := true, thaw := [], live := bitsL 0 0 }),
  (39, { mode := 2, exp := false, thaw := [], live := bitsL 0 0 }),
  (40, { mode := 3, exp := true, thaw := [], live := bitsL 0 0 }),
  (41, { mode := 2, exp := false, thaw := [], live := bitsL 0 0 }),
  (42, { mode := 1, exp := false, thaw := [], live := bitsL 45 60 }),
  (43, { mode := 1, exp := false, thaw := [], live := bitsL 68 7340038 }),
  (59, { mode := 1, exp := false, thaw := [], live := bitsL 0 0 }),
  (64, { mode := 2, exp := true, thaw := [], live := bitsL 0 0 }),
  (69, { mode := 1, exp := false, thaw := [], live := bitsL 0 0 }),
  (72, { mode := 1, exp := false, thaw := [], live := bitsL 0 0 }),
  (73, { mode := 1, exp := false, thaw := [], live := bitsL 0 0 }),
  (76, { mode := 1, exp := false, thaw := [], live := bitsL 0 0 }),
  (78, { mode := 1, exp := false, thaw := [], live := bitsL 55 14 }),
  (79, { mode := 1, exp := false, thaw := [], live := bitsL 19 57 }),
  (82, { mode := 1, exp := false, thaw := [], live := bitsL 49 2005 }),
  (83, { mode := 1, exp := false, thaw := [], live := bitsL 0 0 }),
  (84, { mode := 0, exp := true, thaw := [], live := bitsL 0 0 }),
  (85, { mode := 0, exp := true, thaw := [], live := bitsL 0 0 }),
  (92, { mode := 2, exp := false, thaw := [], live := bitsL 18 29 }),
  (104, { mode := 1, exp := false, thaw := [], live := bitsL 0 0 }),
  (105, { mode := 2, exp := false, thaw := [], live := bitsL 48 61 }),
  (106, { mode := 0, exp := true, thaw := [], live := bitsL 0 0 }),
  (107, { mode := 0, exp := false, thaw := [], live := bitsL 0 0 }),
  (108, { mode := 0, exp := false, thaw := [], live := bitsL 0 0 }),
  (109, { mode := 1, exp := false, thaw := [], live := bitsL 0 0 }),
  (120, { mode := 0, exp := false, thaw := [], live := bitsL 0 0 }),
  (121, { mode := 0, exp := false, thaw := [], live := bitsL 0 0 }),
  (123, { mode := 0, exp := false, thaw := [], live := bitsL 0 0 }),
  (124, { mode := 1, exp := false, thaw := [], live := bitsL 0 0 }),
  (125, { mode := 1, exp := false, thaw := [], live := bitsL 0 0 }),
  (126, { mode := 1, exp := false, thaw := [], live := bitsL 18 460 }),
  (127, { mode := 1, exp := false, thaw := [], live := bitsL 0 0 }),
  (137, { mode := 1, exp := false, thaw := [], live := bitsL 0 0 }),
  (138, { mode := 0, exp := false, thaw := [], live := bitsL 39 29 }),
  (139, { mode := 0, exp := false, thaw := [], live := bitsL 0 0 }),
  (140, { mode := 0, exp := false, thaw := [], live := bitsL 0 0 }),
  (151, { mode := 1, exp := false, thaw := [], live := bitsL 0 0 }),
  (152, { mode := 1, exp := false, thaw := [], live := bitsL 0 0 }),
  (153, { mode := 2, exp := false, thaw := [], live := bitsL 72 1565 }),
  (154, { mode := 2, exp := false, thaw := [], live := bitsL 0 0 }),
  (155, { mode := 0, exp := false, thaw := [], live := bitsL 52 16141 }),
  (180, { mode := 0, exp := false, thaw := [], live := bitsL 28 13 }),
  (181, { mode := 2, exp := false, thaw := [], live := bitsL 36 243 }),
  (182, { mode := 1, exp := false, thaw := [], live := bitsL 14 29 }),
  (183, { mode := 1, exp := false, thaw := [], live := bitsL 67 125 }),
  (184, { mode := 2, exp := false, thaw := [], live := bitsL 51 29 }),
  (185, { mode := 1, exp := false, thaw := [], live := bitsL 44 30 }),
  (201, { mode := 1, exp := false, thaw := [], live := bitsL 27 60 }),
  (202, { mode := 1, exp := false, thaw := [], live := bitsL 31 13 })]

noncomputable def eqTypes : List (TypeId × Nat) := [(49, 3)]
noncomputable def prims : List (Nat × (List A → H → Option (A × H))) := [(84, gDelete 3), (85, gClone 3), (106, gInsert 3)]

noncomputable def env : Env := { P := Try.prog, hint := fun f => (hints.lookup f).getD {}, eqs := eqTypes, prim := fun f => prims.lookup f }

theorem mode_FnEdgeOnce : (env.hint 10).mode = 1 := by kernel_rfl
theorem mode_i_DropEdge : (env.hint 28).mode = 0 := by kernel_rfl
theorem mode_s_AddEdge : (env.hint 39).mode = 2 := by kernel_rfl
theorem mode_i_AddEdge : (env.hint 40).mode = 3 := by kernel_rfl
theorem mode_s_DrawAddEdge : (env.hint 41).mode = 2 := by kernel_rfl
theorem mode_agSystems : (env.hint 42).mode = 1 := by kernel_rfl
theorem mode_i_SystemValid : (env.hint 43).mode = 1 := by kernel_rfl
theorem mode_s_l1At : (env.hint 59).mode = 1 := by kernel_rfl
theorem mode_s_l19Open : (env.hint 64).mode = 2 := by kernel_rfl
theorem mode_i_isAlphabet : (env.hint 69).mode = 1 := by kernel_rfl
theorem mode_s_l1Alphabet : (env.hint 72).mode = 1 := by kernel_rfl
theorem mode_s_l1Has : (env.hint 73).mode = 1 := by kernel_rfl
theorem mode_i_has : (env.hint 76).mode = 1 := by kernel_rfl
theorem mode_s_SystemValid : (env.hint 78).mode = 1 := by kernel_rfl
theorem mode_s_l17Index : (env.hint 79).mode = 1 := by kernel_rfl
theorem mode_slices_BinarySearchFunc_i_Edge_i_Edge_i_Edge : (env.hint 82).mode = 1 := by kernel_rfl
theorem mode_i_compareEdges : (env.hint 83).mode = 1 := by kernel_rfl
theorem mode_slices_Delete_i_Edge_i_Edge : (env.hint 84).mode = 0 := by kernel_rfl
theorem mode_slices_Clone_i_Edge_i_Edge : (env.hint 85).mode = 0 := by kernel_rfl
theorem mode_s_l1Letters : (env.hint 92).mode = 2 := by kernel_rfl
theorem mode_s_l2Edge : (env.hint 104).mode = 1 := by kernel_rfl
theorem mode_s_l17Sorted : (env.hint 105).mode = 2 := by kernel_rfl
theorem mode_slices_Insert_i_Edge_i_Edge : (env.hint 106).mode = 0 := by kernel_rfl
theorem mode_s_l2Any : (env.hint 107).mode = 0 := by kernel_rfl
theorem mode_s_l17Edge : (env.hint 108).mode = 0 := by kernel_rfl
theorem mode_i_isState : (env.hint 109).mode = 1 := by kernel_rfl
theorem mode_s_l19Rd_pick : (env.hint 120).mode = 0 := by kernel_rfl
theorem mode_s_l19Rd_of : (env.hint 121).mode = 0 := by kernel_rfl
theorem mode_s_l19Rd_num : (env.hint 123).mode = 0 := by kernel_rfl
theorem mode_s_l1Text : (env.hint 124).mode = 1 := by kernel_rfl
theorem mode_s_l2Before : (env.hint 125).mode = 1 := by kernel_rfl
theorem mode_cmp_Or_int : (env.hint 126).mode = 1 := by kernel_rfl
theorem mode_cmp_Compare_int : (env.hint 127).mode = 1 := by kernel_rfl
theorem mode_slices_rotateRight_i_Edge : (env.hint 137).mode = 1 := by kernel_rfl
theorem mode_s_l2Big : (env.hint 138).mode = 0 := by kernel_rfl
theorem mode_s_l2Wrong : (env.hint 139).mode = 0 := by kernel_rfl
theorem mode_s_l2Draw : (env.hint 140).mode = 0 := by kernel_rfl
theorem mode_cmp_isNaN_int : (env.hint 151).mode = 1 := by kernel_rfl
theorem mode_slices_rotateLeft_i_Edge : (env.hint 152).mode = 1 := by kernel_rfl
theorem mode_s_ParseSystem : (env.hint 153).mode = 2 := by kernel_rfl
theorem mode_s_l2Texts : (env.hint 154).mode = 2 := by kernel_rfl
theorem mode_s_l2Random : (env.hint 155).mode = 0 := by kernel_rfl
theorem mode_slices_Reverse_i_Edge_i_Edge : (env.hint 180).mode = 0 := by kernel_rfl
theorem mode_s_l19Cut : (env.hint 181).mode = 2 := by kernel_rfl
theorem mode_s_ParseAlphabet : (env.hint 182).mode = 1 := by kernel_rfl
theorem mode_s_l19Num : (env.hint 183).mode = 1 := by kernel_rfl
theorem mode_s_l2Parse : (env.hint 184).mode = 2 := by kernel_rfl
theorem mode_s_FormatSystem : (env.hint 185).mode = 1 := by kernel_rfl
theorem mode_s_FormatAlphabet : (env.hint 201).mode = 1 := by kernel_rfl
theorem mode_s_l19Dec : (env.hint 202).mode = 1 := by kernel_rfl
theorem MD0 : type_of% (And.intro @mode_FnEdgeOnce (And.intro @mode_i_DropEdge (And.intro @mode_s_AddEdge (And.intro @mode_i_AddEdge (And.intro @mode_s_DrawAddEdge (And.intro @mode_agSystems (And.intro @mode_i_SystemValid (And.intro @mode_s_l1At (And.intro @mode_s_l19Open (And.intro @mode_i_isAlphabet (And.intro @mode_s_l1Alphabet (And.intro @mode_s_l1Has (And.intro @mode_i_has (And.intro @mode_s_SystemValid (And.intro @mode_s_l17Index (And.intro @mode_slices_BinarySearchFunc_i_Edge_i_Edge_i_Edge (And.intro @mode_i_compareEdges (And.intro @mode_slices_Delete_i_Edge_i_Edge (And.intro @mode_slices_Clone_i_Edge_i_Edge (And.intro @mode_s_l1Letters (And.intro @mode_s_l2Edge (And.intro @mode_s_l17Sorted (And.intro @mode_slices_Insert_i_Edge_i_Edge (And.intro @mode_s_l2Any (And.intro @mode_s_l17Edge (And.intro @mode_i_isState (And.intro @mode_s_l19Rd_pick (And.intro @mode_s_l19Rd_of (And.intro @mode_s_l19Rd_num (And.intro @mode_s_l1Text (And.intro @mode_s_l2Before (And.intro @mode_cmp_Or_int (And.intro @mode_cmp_Compare_int (And.intro @mode_slices_rotateRight_i_Edge (And.intro @mode_s_l2Big (And.intro @mode_s_l2Wrong (And.intro @mode_s_l2Draw (And.intro @mode_cmp_isNaN_int (And.intro @mode_slices_rotateLeft_i_Edge (And.intro @mode_s_ParseSystem (And.intro @mode_s_l2Texts (And.intro @mode_s_l2Random (And.intro @mode_slices_Reverse_i_Edge_i_Edge (And.intro @mode_s_l19Cut (And.intro @mode_s_ParseAlphabet (And.intro @mode_s_l19Num (And.intro @mode_s_l2Parse (And.intro @mode_s_FormatSystem (And.intro @mode_s_FormatAlphabet @mode_s_l19Dec))))))))))))))))))))))))))))))))))))))))))))))))) := (And.intro @mode_FnEdgeOnce (And.intro @mode_i_DropEdge (And.intro @mode_s_AddEdge (And.intro @mode_i_AddEdge (And.intro @mode_s_DrawAddEdge (And.intro @mode_agSystems (And.intro @mode_i_SystemValid (And.intro @mode_s_l1At (And.intro @mode_s_l19Open (And.intro @mode_i_isAlphabet (And.intro @mode_s_l1Alphabet (And.intro @mode_s_l1Has (And.intro @mode_i_has (And.intro @mode_s_SystemValid (And.intro @mode_s_l17Index (And.intro @mode_slices_BinarySearchFunc_i_Edge_i_Edge_i_Edge (And.intro @mode_i_compareEdges (And.intro @mode_slices_Delete_i_Edge_i_Edge (And.intro @mode_slices_Clone_i_Edge_i_Edge (And.intro @mode_s_l1Letters (And.intro @mode_s_l2Edge (And.intro @mode_s_l17Sorted (And.intro @mode_slices_Insert_i_Edge_i_Edge (And.intro @mode_s_l2Any (And.intro @mode_s_l17Edge (And.intro @mode_i_isState (And.intro @mode_s_l19Rd_pick (And.intro @mode_s_l19Rd_of (And.intro @mode_s_l19Rd_num (And.intro @mode_s_l1Text (And.intro @mode_s_l2Before (And.intro @mode_cmp_Or_int (And.intro @mode_cmp_Compare_int (And.intro @mode_slices_rotateRight_i_Edge (And.intro @mode_s_l2Big (And.intro @mode_s_l2Wrong (And.intro @mode_s_l2Draw (And.intro @mode_cmp_isNaN_int (And.intro @mode_slices_rotateLeft_i_Edge (And.intro @mode_s_ParseSystem (And.intro @mode_s_l2Texts (And.intro @mode_s_l2Random (And.intro @mode_slices_Reverse_i_Edge_i_Edge (And.intro @mode_s_l19Cut (And.intro @mode_s_ParseAlphabet (And.intro @mode_s_l19Num (And.intro @mode_s_l2Parse (And.intro @mode_s_FormatSystem (And.intro @mode_s_FormatAlphabet @mode_s_l19Dec)))))))))))))))))))))))))))))))))))))))))))))))))
theorem MD : type_of% @MD0 := @MD0

end Ev
end Go.Proofs.Ytidobgmklcbcpaa
