/-
  What the evaluator is told of each function, and each function's code as an equation. Written by a program.
-/
import Derived.Test.YtojaohcpgelhmaaDoorEvSym
import Derived.Test.YtojaohcpgelhmaaDoorEvPrim
import Derived.Test.YtojaohcpgelhmaaDoorChecked
set_option maxRecDepth 100000
namespace Go.Proofs.YtojaohcpgelhmaaDoor
namespace Ev

/-- Truth values as the bits of a number. -/
def bitsL : Nat → Nat → List Bool
  | 0, _ => []
  | n + 1, k => (k % 2 == 1) :: bitsL n (k / 2)

noncomputable def hints : List (Nat × Hint) := [
  (5, { mode := 1, exp := false, thaw := [], live := bitsL 0 0 }),
  (9, { mode := 1, exp := false, thaw := [], live := bitsL 45 60 }),
  (13, { mode := 1, exp := false, thaw := [], live := bitsL 68 7340038 }),
  (14, { mode := 2, exp := false, thaw := [], live := bitsL 0 0 }),
  (15, { mode := 3, exp := true, thaw := [], live := bitsL 0 0 }),
  (17, { mode := 0, exp := true, thaw := [], live := bitsL 0 0 }),
  (18, { mode := 1, exp := false, thaw := [], live := bitsL 0 0 }),
  (19, { mode := 2, exp := false, thaw := [], live := bitsL 0 0 }),
  (20, { mode := 2, exp := false, thaw := [], live := bitsL 0 0 }),
  (21, { mode := 1, exp := false, thaw := [], live := bitsL 0 0 }),
  (22, { mode := 2, exp := true, thaw := [], live := bitsL 0 0 }),
  (23, { mode := 0, exp := false, thaw := [], live := bitsL 0 0 }),
  (29, { mode := 1, exp := false, thaw := [], live := bitsL 0 0 }),
  (30, { mode := 1, exp := false, thaw := [], live := bitsL 55 14 }),
  (35, { mode := 1, exp := false, thaw := [], live := bitsL 0 0 }),
  (36, { mode := 2, exp := false, thaw := [0, 0, 0, 2], live := bitsL 17 45 }),
  (37, { mode := 1, exp := false, thaw := [], live := bitsL 0 0 }),
  (38, { mode := 0, exp := false, thaw := [], live := bitsL 28 13 }),
  (40, { mode := 2, exp := false, thaw := [], live := bitsL 32 1804 }),
  (41, { mode := 1, exp := false, thaw := [], live := bitsL 26 199 }),
  (44, { mode := 1, exp := false, thaw := [], live := bitsL 0 0 }),
  (45, { mode := 1, exp := false, thaw := [], live := bitsL 0 0 }),
  (46, { mode := 0, exp := false, thaw := [], live := bitsL 0 0 }),
  (47, { mode := 1, exp := false, thaw := [], live := bitsL 49 2005 }),
  (48, { mode := 0, exp := true, thaw := [], live := bitsL 0 0 }),
  (49, { mode := 0, exp := true, thaw := [], live := bitsL 0 0 }),
  (50, { mode := 1, exp := false, thaw := [], live := bitsL 0 0 }),
  (51, { mode := 1, exp := false, thaw := [], live := bitsL 19 57 }),
  (52, { mode := 0, exp := true, thaw := [], live := bitsL 0 0 }),
  (53, { mode := 1, exp := false, thaw := [], live := bitsL 0 0 }),
  (54, { mode := 1, exp := false, thaw := [], live := bitsL 0 0 }),
  (55, { mode := 2, exp := false, thaw := [], live := bitsL 0 0 }),
  (56, { mode := 2, exp := false, thaw := [], live := bitsL 71 123626388986836 }),
  (57, { mode := 0, exp := false, thaw := [], live := bitsL 0 0 }),
  (58, { mode := 0, exp := false, thaw := [], live := bitsL 39 29 }),
  (59, { mode := 0, exp := false, thaw := [], live := bitsL 0 0 }),
  (60, { mode := 0, exp := false, thaw := [], live := bitsL 0 0 }),
  (61, { mode := 0, exp := false, thaw := [], live := bitsL 0 0 }),
  (64, { mode := 1, exp := false, thaw := [], live := bitsL 18 460 }),
  (65, { mode := 1, exp := false, thaw := [], live := bitsL 0 0 }),
  (66, { mode := 1, exp := false, thaw := [], live := bitsL 0 0 }),
  (67, { mode := 1, exp := false, thaw := [], live := bitsL 0 0 }),
  (68, { mode := 1, exp := false, thaw := [], live := bitsL 0 0 }),
  (70, { mode := 1, exp := false, thaw := [], live := bitsL 0 0 }),
  (72, { mode := 1, exp := false, thaw := [], live := bitsL 0 0 }),
  (73, { mode := 0, exp := false, thaw := [], live := bitsL 44 1879049748 }),
  (74, { mode := 2, exp := false, thaw := [0, 0, 0, 2], live := bitsL 17 13 }),
  (75, { mode := 1, exp := false, thaw := [0, 0, 0, 0, 0, 0, 0, 0, 0, 0, 0, 0, 0, 0, 0, 0, 0, 0, 2], live := bitsL 63 61632781151244 }),
  (76, { mode := 0, exp := false, thaw := [], live := bitsL 0 0 }),
  (77, { mode := 1, exp := false, thaw := [], live := bitsL 67 939683903 }),
  (78, { mode := 2, exp := false, thaw := [], live := bitsL 72 1565 }),
  (79, { mode := 0, exp := false, thaw := [], live := bitsL 0 0 }),
  (80, { mode := 2, exp := false, thaw := [], live := bitsL 0 0 }),
  (81, { mode := 0, exp := false, thaw := [], live := bitsL 52 16141 }),
  (92, { mode := 1, exp := false, thaw := [], live := bitsL 0 0 }),
  (93, { mode := 1, exp := false, thaw := [], live := bitsL 0 0 }),
  (94, { mode := 1, exp := false, thaw := [], live := bitsL 0 0 }),
  (95, { mode := 1, exp := false, thaw := [], live := bitsL 0 0 }),
  (96, { mode := 0, exp := false, thaw := [0, 0, 0, 0, 0, 0, 0, 0, 0, 0, 2], live := bitsL 50 118331 }),
  (97, { mode := 1, exp := false, thaw := [0, 0, 0, 2], live := bitsL 32 29 }),
  (98, { mode := 2, exp := false, thaw := [], live := bitsL 36 243 }),
  (99, { mode := 1, exp := false, thaw := [], live := bitsL 14 29 }),
  (100, { mode := 1, exp := false, thaw := [], live := bitsL 67 125 }),
  (101, { mode := 2, exp := false, thaw := [], live := bitsL 51 29 }),
  (102, { mode := 1, exp := false, thaw := [], live := bitsL 44 30 }),
  (103, { mode := 2, exp := false, thaw := [], live := bitsL 18 29 }),
  (109, { mode := 0, exp := false, thaw := [], live := bitsL 28 13 }),
  (110, { mode := 1, exp := false, thaw := [], live := bitsL 27 60 }),
  (111, { mode := 1, exp := false, thaw := [], live := bitsL 0 0 }),
  (112, { mode := 1, exp := false, thaw := [], live := bitsL 31 13 }),
  (113, { mode := 1, exp := false, thaw := [], live := bitsL 0 0 })]

noncomputable def eqTypes : List (TypeId × Nat) := [(38, 3)]
noncomputable def prims : List (Nat × (List A → H → Option (A × H))) := [(48, gInsert 3), (49, gClone 3), (52, gDelete 3), (70, gCtz)]

noncomputable def env : Env := { P := Tryd.prog, hint := fun f => (hints.lookup f).getD {}, eqs := eqTypes, prim := fun f => prims.lookup f }

theorem mode_FnDropEdge : (env.hint 5).mode = 1 := by kernel_rfl
theorem mode_agSystems : (env.hint 9).mode = 1 := by kernel_rfl
theorem mode_i_SystemValid : (env.hint 13).mode = 1 := by kernel_rfl
theorem mode_s_DrawAddEdge : (env.hint 14).mode = 2 := by kernel_rfl
theorem mode_i_AddEdge : (env.hint 15).mode = 3 := by kernel_rfl
theorem mode_i_DropEdge : (env.hint 17).mode = 0 := by kernel_rfl
theorem mode_i_TracesWithin : (env.hint 18).mode = 1 := by kernel_rfl
theorem mode_s_DrawDropEdge : (env.hint 19).mode = 2 := by kernel_rfl
theorem mode_s_DropEdge : (env.hint 20).mode = 2 := by kernel_rfl
theorem mode_i_Simulates : (env.hint 21).mode = 1 := by kernel_rfl
theorem mode_s_l19Open : (env.hint 22).mode = 2 := by kernel_rfl
theorem mode_s_l2Any : (env.hint 23).mode = 0 := by kernel_rfl
theorem mode_i_compareEdges : (env.hint 29).mode = 1 := by kernel_rfl
theorem mode_s_SystemValid : (env.hint 30).mode = 1 := by kernel_rfl
theorem mode_i_isAlphabet : (env.hint 35).mode = 1 := by kernel_rfl
theorem mode_i_lettersOf : (env.hint 36).mode = 2 := by kernel_rfl
theorem mode_i_letterByte : (env.hint 37).mode = 1 := by kernel_rfl
theorem mode_slices_Reverse_byte_byte : (env.hint 38).mode = 0 := by kernel_rfl
theorem mode_i_movesOf : (env.hint 40).mode = 2 := by kernel_rfl
theorem mode_i_moves_step : (env.hint 41).mode = 1 := by kernel_rfl
theorem mode_i_isState : (env.hint 44).mode = 1 := by kernel_rfl
theorem mode_i_has : (env.hint 45).mode = 1 := by kernel_rfl
theorem mode_s_l17Edge : (env.hint 46).mode = 0 := by kernel_rfl
theorem mode_slices_BinarySearchFunc_i_Edge_i_Edge_i_Edge : (env.hint 47).mode = 1 := by kernel_rfl
theorem mode_slices_Insert_i_Edge_i_Edge : (env.hint 48).mode = 0 := by kernel_rfl
theorem mode_slices_Clone_i_Edge_i_Edge : (env.hint 49).mode = 0 := by kernel_rfl
theorem mode_s_l2Edge : (env.hint 50).mode = 1 := by kernel_rfl
theorem mode_s_l17Index : (env.hint 51).mode = 1 := by kernel_rfl
theorem mode_slices_Delete_i_Edge_i_Edge : (env.hint 52).mode = 0 := by kernel_rfl
theorem mode_i_FirstTraceOutside : (env.hint 53).mode = 1 := by kernel_rfl
theorem mode_i_sameAlphabets : (env.hint 54).mode = 1 := by kernel_rfl
theorem mode_s_l17Drop : (env.hint 55).mode = 2 := by kernel_rfl
theorem mode_i_greatestRelation : (env.hint 56).mode = 2 := by kernel_rfl
theorem mode_s_l19Rd_pick : (env.hint 57).mode = 0 := by kernel_rfl
theorem mode_s_l2Big : (env.hint 58).mode = 0 := by kernel_rfl
theorem mode_s_l2Wrong : (env.hint 59).mode = 0 := by kernel_rfl
theorem mode_s_l2Draw : (env.hint 60).mode = 0 := by kernel_rfl
theorem mode_s_l19Rd_num : (env.hint 61).mode = 0 := by kernel_rfl
theorem mode_cmp_Or_int : (env.hint 64).mode = 1 := by kernel_rfl
theorem mode_cmp_Compare_int : (env.hint 65).mode = 1 := by kernel_rfl
theorem mode_s_l1Alphabet : (env.hint 66).mode = 1 := by kernel_rfl
theorem mode_s_l2Before : (env.hint 67).mode = 1 := by kernel_rfl
theorem mode_s_l1Has : (env.hint 68).mode = 1 := by kernel_rfl
theorem mode_math_bits_TrailingZeros : (env.hint 70).mode = 1 := by kernel_rfl
theorem mode_slices_rotateRight_i_Edge : (env.hint 72).mode = 1 := by kernel_rfl
theorem mode_i_FirstTraceOutside_c1 : (env.hint 73).mode = 0 := by kernel_rfl
theorem mode_i_members : (env.hint 74).mode = 2 := by kernel_rfl
theorem mode_i_firstPath : (env.hint 75).mode = 1 := by kernel_rfl
theorem mode_i_FirstTraceOutside_c2 : (env.hint 76).mode = 0 := by kernel_rfl
theorem mode_i_answers : (env.hint 77).mode = 1 := by kernel_rfl
theorem mode_s_ParseSystem : (env.hint 78).mode = 2 := by kernel_rfl
theorem mode_s_l19Rd_of : (env.hint 79).mode = 0 := by kernel_rfl
theorem mode_s_l2Texts : (env.hint 80).mode = 2 := by kernel_rfl
theorem mode_s_l2Random : (env.hint 81).mode = 0 := by kernel_rfl
theorem mode_cmp_isNaN_int : (env.hint 92).mode = 1 := by kernel_rfl
theorem mode_math_bits_TrailingZeros32 : (env.hint 93).mode = 1 := by kernel_rfl
theorem mode_math_bits_TrailingZeros64 : (env.hint 94).mode = 1 := by kernel_rfl
theorem mode_slices_rotateLeft_i_Edge : (env.hint 95).mode = 1 := by kernel_rfl
theorem mode_i_firstPath_c1 : (env.hint 96).mode = 0 := by kernel_rfl
theorem mode_i_pathWord : (env.hint 97).mode = 1 := by kernel_rfl
theorem mode_s_l19Cut : (env.hint 98).mode = 2 := by kernel_rfl
theorem mode_s_ParseAlphabet : (env.hint 99).mode = 1 := by kernel_rfl
theorem mode_s_l19Num : (env.hint 100).mode = 1 := by kernel_rfl
theorem mode_s_l2Parse : (env.hint 101).mode = 2 := by kernel_rfl
theorem mode_s_FormatSystem : (env.hint 102).mode = 1 := by kernel_rfl
theorem mode_s_l1Letters : (env.hint 103).mode = 2 := by kernel_rfl
theorem mode_slices_Reverse_i_Edge_i_Edge : (env.hint 109).mode = 0 := by kernel_rfl
theorem mode_s_FormatAlphabet : (env.hint 110).mode = 1 := by kernel_rfl
theorem mode_s_l1At : (env.hint 111).mode = 1 := by kernel_rfl
theorem mode_s_l19Dec : (env.hint 112).mode = 1 := by kernel_rfl
theorem mode_s_l1Text : (env.hint 113).mode = 1 := by kernel_rfl
theorem MD0 : type_of% (And.intro @mode_FnDropEdge (And.intro @mode_agSystems (And.intro @mode_i_SystemValid (And.intro @mode_s_DrawAddEdge (And.intro @mode_i_AddEdge (And.intro @mode_i_DropEdge (And.intro @mode_i_TracesWithin (And.intro @mode_s_DrawDropEdge (And.intro @mode_s_DropEdge (And.intro @mode_i_Simulates (And.intro @mode_s_l19Open (And.intro @mode_s_l2Any (And.intro @mode_i_compareEdges (And.intro @mode_s_SystemValid (And.intro @mode_i_isAlphabet (And.intro @mode_i_lettersOf (And.intro @mode_i_letterByte (And.intro @mode_slices_Reverse_byte_byte (And.intro @mode_i_movesOf (And.intro @mode_i_moves_step (And.intro @mode_i_isState (And.intro @mode_i_has (And.intro @mode_s_l17Edge (And.intro @mode_slices_BinarySearchFunc_i_Edge_i_Edge_i_Edge (And.intro @mode_slices_Insert_i_Edge_i_Edge (And.intro @mode_slices_Clone_i_Edge_i_Edge (And.intro @mode_s_l2Edge (And.intro @mode_s_l17Index (And.intro @mode_slices_Delete_i_Edge_i_Edge (And.intro @mode_i_FirstTraceOutside (And.intro @mode_i_sameAlphabets (And.intro @mode_s_l17Drop (And.intro @mode_i_greatestRelation (And.intro @mode_s_l19Rd_pick (And.intro @mode_s_l2Big (And.intro @mode_s_l2Wrong (And.intro @mode_s_l2Draw (And.intro @mode_s_l19Rd_num (And.intro @mode_cmp_Or_int (And.intro @mode_cmp_Compare_int (And.intro @mode_s_l1Alphabet (And.intro @mode_s_l2Before (And.intro @mode_s_l1Has (And.intro @mode_math_bits_TrailingZeros (And.intro @mode_slices_rotateRight_i_Edge (And.intro @mode_i_FirstTraceOutside_c1 (And.intro @mode_i_members (And.intro @mode_i_firstPath (And.intro @mode_i_FirstTraceOutside_c2 (And.intro @mode_i_answers (And.intro @mode_s_ParseSystem (And.intro @mode_s_l19Rd_of (And.intro @mode_s_l2Texts (And.intro @mode_s_l2Random (And.intro @mode_cmp_isNaN_int (And.intro @mode_math_bits_TrailingZeros32 (And.intro @mode_math_bits_TrailingZeros64 (And.intro @mode_slices_rotateLeft_i_Edge (And.intro @mode_i_firstPath_c1 @mode_i_pathWord))))))))))))))))))))))))))))))))))))))))))))))))))))))))))) := (And.intro @mode_FnDropEdge (And.intro @mode_agSystems (And.intro @mode_i_SystemValid (And.intro @mode_s_DrawAddEdge (And.intro @mode_i_AddEdge (And.intro @mode_i_DropEdge (And.intro @mode_i_TracesWithin (And.intro @mode_s_DrawDropEdge (And.intro @mode_s_DropEdge (And.intro @mode_i_Simulates (And.intro @mode_s_l19Open (And.intro @mode_s_l2Any (And.intro @mode_i_compareEdges (And.intro @mode_s_SystemValid (And.intro @mode_i_isAlphabet (And.intro @mode_i_lettersOf (And.intro @mode_i_letterByte (And.intro @mode_slices_Reverse_byte_byte (And.intro @mode_i_movesOf (And.intro @mode_i_moves_step (And.intro @mode_i_isState (And.intro @mode_i_has (And.intro @mode_s_l17Edge (And.intro @mode_slices_BinarySearchFunc_i_Edge_i_Edge_i_Edge (And.intro @mode_slices_Insert_i_Edge_i_Edge (And.intro @mode_slices_Clone_i_Edge_i_Edge (And.intro @mode_s_l2Edge (And.intro @mode_s_l17Index (And.intro @mode_slices_Delete_i_Edge_i_Edge (And.intro @mode_i_FirstTraceOutside (And.intro @mode_i_sameAlphabets (And.intro @mode_s_l17Drop (And.intro @mode_i_greatestRelation (And.intro @mode_s_l19Rd_pick (And.intro @mode_s_l2Big (And.intro @mode_s_l2Wrong (And.intro @mode_s_l2Draw (And.intro @mode_s_l19Rd_num (And.intro @mode_cmp_Or_int (And.intro @mode_cmp_Compare_int (And.intro @mode_s_l1Alphabet (And.intro @mode_s_l2Before (And.intro @mode_s_l1Has (And.intro @mode_math_bits_TrailingZeros (And.intro @mode_slices_rotateRight_i_Edge (And.intro @mode_i_FirstTraceOutside_c1 (And.intro @mode_i_members (And.intro @mode_i_firstPath (And.intro @mode_i_FirstTraceOutside_c2 (And.intro @mode_i_answers (And.intro @mode_s_ParseSystem (And.intro @mode_s_l19Rd_of (And.intro @mode_s_l2Texts (And.intro @mode_s_l2Random (And.intro @mode_cmp_isNaN_int (And.intro @mode_math_bits_TrailingZeros32 (And.intro @mode_math_bits_TrailingZeros64 (And.intro @mode_slices_rotateLeft_i_Edge (And.intro @mode_i_firstPath_c1 @mode_i_pathWord)))))))))))))))))))))))))))))))))))))))))))))))))))))))))))
theorem MD1 : type_of% (And.intro @mode_s_l19Cut (And.intro @mode_s_ParseAlphabet (And.intro @mode_s_l19Num (And.intro @mode_s_l2Parse (And.intro @mode_s_FormatSystem (And.intro @mode_s_l1Letters (And.intro @mode_slices_Reverse_i_Edge_i_Edge (And.intro @mode_s_FormatAlphabet (And.intro @mode_s_l1At (And.intro @mode_s_l19Dec @mode_s_l1Text)))))))))) := (And.intro @mode_s_l19Cut (And.intro @mode_s_ParseAlphabet (And.intro @mode_s_l19Num (And.intro @mode_s_l2Parse (And.intro @mode_s_FormatSystem (And.intro @mode_s_l1Letters (And.intro @mode_slices_Reverse_i_Edge_i_Edge (And.intro @mode_s_FormatAlphabet (And.intro @mode_s_l1At (And.intro @mode_s_l19Dec @mode_s_l1Text))))))))))
theorem MD : type_of% (And.intro @MD0 @MD1) := (And.intro @MD0 @MD1)

end Ev
end Go.Proofs.YtojaohcpgelhmaaDoor
