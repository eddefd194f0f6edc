/-
  What the evaluator is told of each function, and each function's code as an equation. Written by a program.
-/
import Derived.Test.YtojaohcpgelhmaaDoorEvSym
import Derived.Test.YtojaohcpgelhmaaDoorEvPrim
import Derived.Test.YtojaohcpgelhmaaDoorChecked
set_option maxRecDepth 100000
namespace Go.Proofs.YtojaohcpgelhmaaDoor
namespace Ev

/-- Truth values as the bits of a number. -/
def bitsL : Nat → Nat → List Bool
  | 0, _ => []
  | n + 1, k => (k % 2 == 1) :: bitsL n (k / 2)

noncomputable def hints : List (Nat × Hint) := [
  (3, { mode := 1, exp := false, thaw := [], live := bitsL 99 1148 }),
  (6, { mode := 2, exp := false, thaw := [], live := bitsL 0 0 }),
  (7, { mode := 3, exp := true, thaw := [], live := bitsL 60 120259084742 }),
  (8, { mode := 2, exp := false, thaw := [], live := bitsL 61 974 }),
  (9, { mode := 1, exp := false, thaw := [], live := bitsL 45 60 }),
  (10, { mode := 1, exp := false, thaw := [0, 0, 0, 0, 0, 0, 0, 2], live := bitsL 48 241 }),
  (11, { mode := 1, exp := false, thaw := [], live := bitsL 37 242 }),
  (12, { mode := 1, exp := false, thaw := [], live := bitsL 43 201326791 }),
  (13, { mode := 1, exp := false, thaw := [], live := bitsL 68 7340038 }),
  (22, { mode := 2, exp := true, thaw := [], live := bitsL 0 0 }),
  (23, { mode := 0, exp := false, thaw := [], live := bitsL 0 0 }),
  (24, { mode := 0, exp := false, thaw := [], live := bitsL 0 0 }),
  (25, { mode := 1, exp := false, thaw := [], live := bitsL 0 0 }),
  (26, { mode := 1, exp := false, thaw := [], live := bitsL 39 117440710 }),
  (27, { mode := 1, exp := false, thaw := [], live := bitsL 0 0 }),
  (28, { mode := 0, exp := false, thaw := [], live := bitsL 0 0 }),
  (29, { mode := 1, exp := false, thaw := [], live := bitsL 0 0 }),
  (30, { mode := 1, exp := false, thaw := [], live := bitsL 55 14 }),
  (31, { mode := 1, exp := false, thaw := [], live := bitsL 0 0 }),
  (32, { mode := 1, exp := false, thaw := [], live := bitsL 0 0 }),
  (33, { mode := 1, exp := false, thaw := [], live := bitsL 37 455 }),
  (34, { mode := 2, exp := false, thaw := [], live := bitsL 48 61 }),
  (35, { mode := 1, exp := false, thaw := [], live := bitsL 0 0 }),
  (36, { mode := 2, exp := false, thaw := [0, 0, 0, 2], live := bitsL 17 45 }),
  (37, { mode := 1, exp := false, thaw := [], live := bitsL 0 0 }),
  (38, { mode := 0, exp := false, thaw := [], live := bitsL 28 13 }),
  (39, { mode := 1, exp := false, thaw := [], live := bitsL 26 98323 }),
  (40, { mode := 2, exp := false, thaw := [], live := bitsL 32 1804 }),
  (41, { mode := 1, exp := false, thaw := [], live := bitsL 26 199 }),
  (42, { mode := 1, exp := false, thaw := [], live := bitsL 0 0 }),
  (43, { mode := 1, exp := false, thaw := [], live := bitsL 0 0 }),
  (44, { mode := 1, exp := false, thaw := [], live := bitsL 0 0 }),
  (45, { mode := 1, exp := false, thaw := [], live := bitsL 0 0 }),
  (50, { mode := 1, exp := false, thaw := [], live := bitsL 0 0 }),
  (57, { mode := 0, exp := false, thaw := [], live := bitsL 0 0 }),
  (58, { mode := 0, exp := false, thaw := [], live := bitsL 39 29 }),
  (59, { mode := 0, exp := false, thaw := [], live := bitsL 0 0 }),
  (60, { mode := 0, exp := false, thaw := [], live := bitsL 0 0 }),
  (61, { mode := 0, exp := false, thaw := [], live := bitsL 0 0 }),
  (62, { mode := 0, exp := false, thaw := [], live := bitsL 148 3103 }),
  (63, { mode := 1, exp := false, thaw := [], live := bitsL 0 0 }),
  (64, { mode := 1, exp := false, thaw := [], live := bitsL 18 460 }),
  (65, { mode := 1, exp := false, thaw := [], live := bitsL 0 0 }),
  (66, { mode := 1, exp := false, thaw := [], live := bitsL 0 0 }),
  (67, { mode := 1, exp := false, thaw := [], live := bitsL 0 0 }),
  (68, { mode := 1, exp := false, thaw := [], live := bitsL 0 0 }),
  (69, { mode := 1, exp := false, thaw := [], live := bitsL 0 0 }),
  (70, { mode := 1, exp := false, thaw := [], live := bitsL 0 0 }),
  (78, { mode := 2, exp := false, thaw := [], live := bitsL 72 1565 }),
  (79, { mode := 0, exp := false, thaw := [], live := bitsL 0 0 }),
  (80, { mode := 2, exp := false, thaw := [], live := bitsL 0 0 }),
  (81, { mode := 0, exp := false, thaw := [], live := bitsL 52 16141 }),
  (82, { mode := 0, exp := false, thaw := [], live := bitsL 53 783 }),
  (83, { mode := 0, exp := false, thaw := [], live := bitsL 60 7945 }),
  (84, { mode := 0, exp := false, thaw := [], live := bitsL 67 3843 }),
  (85, { mode := 0, exp := false, thaw := [], live := bitsL 0 0 }),
  (86, { mode := 0, exp := false, thaw := [], live := bitsL 34 769 }),
  (87, { mode := 0, exp := false, thaw := [], live := bitsL 141 7951 }),
  (88, { mode := 0, exp := false, thaw := [], live := bitsL 90 7187 }),
  (89, { mode := 0, exp := false, thaw := [], live := bitsL 178 15379 }),
  (90, { mode := 1, exp := false, thaw := [], live := bitsL 0 0 }),
  (91, { mode := 1, exp := false, thaw := [], live := bitsL 0 0 }),
  (92, { mode := 1, exp := false, thaw := [], live := bitsL 0 0 }),
  (93, { mode := 1, exp := false, thaw := [], live := bitsL 0 0 }),
  (94, { mode := 1, exp := false, thaw := [], live := bitsL 0 0 }),
  (98, { mode := 2, exp := false, thaw := [], live := bitsL 36 243 }),
  (99, { mode := 1, exp := false, thaw := [], live := bitsL 14 29 }),
  (100, { mode := 1, exp := false, thaw := [], live := bitsL 67 125 }),
  (101, { mode := 2, exp := false, thaw := [], live := bitsL 51 29 }),
  (102, { mode := 1, exp := false, thaw := [], live := bitsL 44 30 }),
  (103, { mode := 2, exp := false, thaw := [], live := bitsL 18 29 }),
  (104, { mode := 0, exp := false, thaw := [], live := bitsL 82 1053 }),
  (105, { mode := 1, exp := false, thaw := [], live := bitsL 0 0 }),
  (107, { mode := 0, exp := false, thaw := [], live := bitsL 0 0 }),
  (108, { mode := 0, exp := false, thaw := [], live := bitsL 0 0 }),
  (110, { mode := 1, exp := false, thaw := [], live := bitsL 27 60 }),
  (111, { mode := 1, exp := false, thaw := [], live := bitsL 0 0 }),
  (112, { mode := 1, exp := false, thaw := [], live := bitsL 31 13 }),
  (113, { mode := 1, exp := false, thaw := [], live := bitsL 0 0 }),
  (114, { mode := 0, exp := false, thaw := [], live := bitsL 0 0 })]

noncomputable def eqTypes : List (TypeId × Nat) := [(38, 3)]
noncomputable def prims : List (Nat × (List A → H → Option (A × H))) := [(28, gSortE 29), (70, gCtz)]

noncomputable def env : Env := { P := Tryd.prog, hint := fun f => (hints.lookup f).getD {}, eqs := eqTypes, prim := fun f => prims.lookup f }

theorem mode_FnSwapSystem : (env.hint 3).mode = 1 := by kernel_rfl
theorem mode_s_DrawSwapSystem : (env.hint 6).mode = 2 := by kernel_rfl
theorem mode_i_SwapSystem : (env.hint 7).mode = 3 := by kernel_rfl
theorem mode_s_SwapSystem : (env.hint 8).mode = 2 := by kernel_rfl
theorem mode_agSystems : (env.hint 9).mode = 1 := by kernel_rfl
theorem mode_i_WordAt : (env.hint 10).mode = 1 := by kernel_rfl
theorem mode_i_StatesAfter : (env.hint 11).mode = 1 := by kernel_rfl
theorem mode_i_SwapWord : (env.hint 12).mode = 1 := by kernel_rfl
theorem mode_i_SystemValid : (env.hint 13).mode = 1 := by kernel_rfl
theorem mode_s_l19Open : (env.hint 22).mode = 2 := by kernel_rfl
theorem mode_s_l2Any : (env.hint 23).mode = 0 := by kernel_rfl
theorem mode_s_l17Two : (env.hint 24).mode = 0 := by kernel_rfl
theorem mode_i_isLetter : (env.hint 25).mode = 1 := by kernel_rfl
theorem mode_i_SwapAlphabet : (env.hint 26).mode = 1 := by kernel_rfl
theorem mode_i_swapped : (env.hint 27).mode = 1 := by kernel_rfl
theorem mode_slices_SortFunc_i_Edge_i_Edge : (env.hint 28).mode = 0 := by kernel_rfl
theorem mode_i_compareEdges : (env.hint 29).mode = 1 := by kernel_rfl
theorem mode_s_SystemValid : (env.hint 30).mode = 1 := by kernel_rfl
theorem mode_s_l17Letter : (env.hint 31).mode = 1 := by kernel_rfl
theorem mode_s_l17Swap : (env.hint 32).mode = 1 := by kernel_rfl
theorem mode_s_SwapAlphabet : (env.hint 33).mode = 1 := by kernel_rfl
theorem mode_s_l17Sorted : (env.hint 34).mode = 2 := by kernel_rfl
theorem mode_i_isAlphabet : (env.hint 35).mode = 1 := by kernel_rfl
theorem mode_i_lettersOf : (env.hint 36).mode = 2 := by kernel_rfl
theorem mode_i_letterByte : (env.hint 37).mode = 1 := by kernel_rfl
theorem mode_slices_Reverse_byte_byte : (env.hint 38).mode = 0 := by kernel_rfl
theorem mode_i_WordWithin : (env.hint 39).mode = 1 := by kernel_rfl
theorem mode_i_movesOf : (env.hint 40).mode = 2 := by kernel_rfl
theorem mode_i_moves_step : (env.hint 41).mode = 1 := by kernel_rfl
theorem mode_i_letterAt : (env.hint 42).mode = 1 := by kernel_rfl
theorem mode_i_WordValid : (env.hint 43).mode = 1 := by kernel_rfl
theorem mode_i_isState : (env.hint 44).mode = 1 := by kernel_rfl
theorem mode_i_has : (env.hint 45).mode = 1 := by kernel_rfl
theorem mode_s_l2Edge : (env.hint 50).mode = 1 := by kernel_rfl
theorem mode_s_l19Rd_pick : (env.hint 57).mode = 0 := by kernel_rfl
theorem mode_s_l2Big : (env.hint 58).mode = 0 := by kernel_rfl
theorem mode_s_l2Wrong : (env.hint 59).mode = 0 := by kernel_rfl
theorem mode_s_l2Draw : (env.hint 60).mode = 0 := by kernel_rfl
theorem mode_s_l19Rd_num : (env.hint 61).mode = 0 := by kernel_rfl
theorem mode_slices_pdqsortCmpFunc_i_Edge : (env.hint 62).mode = 0 := by kernel_rfl
theorem mode_math_bits_Len : (env.hint 63).mode = 1 := by kernel_rfl
theorem mode_cmp_Or_int : (env.hint 64).mode = 1 := by kernel_rfl
theorem mode_cmp_Compare_int : (env.hint 65).mode = 1 := by kernel_rfl
theorem mode_s_l1Alphabet : (env.hint 66).mode = 1 := by kernel_rfl
theorem mode_s_l2Before : (env.hint 67).mode = 1 := by kernel_rfl
theorem mode_s_l1Has : (env.hint 68).mode = 1 := by kernel_rfl
theorem mode_s_l1Bit : (env.hint 69).mode = 1 := by kernel_rfl
theorem mode_math_bits_TrailingZeros : (env.hint 70).mode = 1 := by kernel_rfl
theorem mode_s_ParseSystem : (env.hint 78).mode = 2 := by kernel_rfl
theorem mode_s_l19Rd_of : (env.hint 79).mode = 0 := by kernel_rfl
theorem mode_s_l2Texts : (env.hint 80).mode = 2 := by kernel_rfl
theorem mode_s_l2Random : (env.hint 81).mode = 0 := by kernel_rfl
theorem mode_slices_insertionSortCmpFunc_i_Edge : (env.hint 82).mode = 0 := by kernel_rfl
theorem mode_slices_heapSortCmpFunc_i_Edge : (env.hint 83).mode = 0 := by kernel_rfl
theorem mode_slices_breakPatternsCmpFunc_i_Edge : (env.hint 84).mode = 0 := by kernel_rfl
theorem mode_slices_choosePivotCmpFunc_i_Edge : (env.hint 85).mode = 0 := by kernel_rfl
theorem mode_slices_reverseRangeCmpFunc_i_Edge : (env.hint 86).mode = 0 := by kernel_rfl
theorem mode_slices_partialInsertionSortCmpFunc_i_Edge : (env.hint 87).mode = 0 := by kernel_rfl
theorem mode_slices_partitionEqualCmpFunc_i_Edge : (env.hint 88).mode = 0 := by kernel_rfl
theorem mode_slices_partitionCmpFunc_i_Edge : (env.hint 89).mode = 0 := by kernel_rfl
theorem mode_math_bits_Len32 : (env.hint 90).mode = 1 := by kernel_rfl
theorem mode_math_bits_Len64 : (env.hint 91).mode = 1 := by kernel_rfl
theorem mode_cmp_isNaN_int : (env.hint 92).mode = 1 := by kernel_rfl
theorem mode_math_bits_TrailingZeros32 : (env.hint 93).mode = 1 := by kernel_rfl
theorem mode_math_bits_TrailingZeros64 : (env.hint 94).mode = 1 := by kernel_rfl
theorem mode_s_l19Cut : (env.hint 98).mode = 2 := by kernel_rfl
theorem mode_s_ParseAlphabet : (env.hint 99).mode = 1 := by kernel_rfl
theorem mode_s_l19Num : (env.hint 100).mode = 1 := by kernel_rfl
theorem mode_s_l2Parse : (env.hint 101).mode = 2 := by kernel_rfl
theorem mode_s_FormatSystem : (env.hint 102).mode = 1 := by kernel_rfl
theorem mode_s_l1Letters : (env.hint 103).mode = 2 := by kernel_rfl
theorem mode_slices_siftDownCmpFunc_i_Edge : (env.hint 104).mode = 0 := by kernel_rfl
theorem mode_slices_nextPowerOfTwo : (env.hint 105).mode = 1 := by kernel_rfl
theorem mode_slices_medianAdjacentCmpFunc_i_Edge : (env.hint 107).mode = 0 := by kernel_rfl
theorem mode_slices_medianCmpFunc_i_Edge : (env.hint 108).mode = 0 := by kernel_rfl
theorem mode_s_FormatAlphabet : (env.hint 110).mode = 1 := by kernel_rfl
theorem mode_s_l1At : (env.hint 111).mode = 1 := by kernel_rfl
theorem mode_s_l19Dec : (env.hint 112).mode = 1 := by kernel_rfl
theorem mode_s_l1Text : (env.hint 113).mode = 1 := by kernel_rfl
theorem mode_slices_order2CmpFunc_i_Edge : (env.hint 114).mode = 0 := by kernel_rfl
theorem MD0 : type_of% (And.intro @mode_FnSwapSystem (And.intro @mode_s_DrawSwapSystem (And.intro @mode_i_SwapSystem (And.intro @mode_s_SwapSystem (And.intro @mode_agSystems (And.intro @mode_i_WordAt (And.intro @mode_i_StatesAfter (And.intro @mode_i_SwapWord (And.intro @mode_i_SystemValid (And.intro @mode_s_l19Open (And.intro @mode_s_l2Any (And.intro @mode_s_l17Two (And.intro @mode_i_isLetter (And.intro @mode_i_SwapAlphabet (And.intro @mode_i_swapped (And.intro @mode_slices_SortFunc_i_Edge_i_Edge (And.intro @mode_i_compareEdges (And.intro @mode_s_SystemValid (And.intro @mode_s_l17Letter (And.intro @mode_s_l17Swap (And.intro @mode_s_SwapAlphabet (And.intro @mode_s_l17Sorted (And.intro @mode_i_isAlphabet (And.intro @mode_i_lettersOf (And.intro @mode_i_letterByte (And.intro @mode_slices_Reverse_byte_byte (And.intro @mode_i_WordWithin (And.intro @mode_i_movesOf (And.intro @mode_i_moves_step (And.intro @mode_i_letterAt (And.intro @mode_i_WordValid (And.intro @mode_i_isState (And.intro @mode_i_has (And.intro @mode_s_l2Edge (And.intro @mode_s_l19Rd_pick (And.intro @mode_s_l2Big (And.intro @mode_s_l2Wrong (And.intro @mode_s_l2Draw (And.intro @mode_s_l19Rd_num (And.intro @mode_slices_pdqsortCmpFunc_i_Edge (And.intro @mode_math_bits_Len (And.intro @mode_cmp_Or_int (And.intro @mode_cmp_Compare_int (And.intro @mode_s_l1Alphabet (And.intro @mode_s_l2Before (And.intro @mode_s_l1Has (And.intro @mode_s_l1Bit (And.intro @mode_math_bits_TrailingZeros (And.intro @mode_s_ParseSystem (And.intro @mode_s_l19Rd_of (And.intro @mode_s_l2Texts (And.intro @mode_s_l2Random (And.intro @mode_slices_insertionSortCmpFunc_i_Edge (And.intro @mode_slices_heapSortCmpFunc_i_Edge (And.intro @mode_slices_breakPatternsCmpFunc_i_Edge (And.intro @mode_slices_choosePivotCmpFunc_i_Edge (And.intro @mode_slices_reverseRangeCmpFunc_i_Edge (And.intro @mode_slices_partialInsertionSortCmpFunc_i_Edge (And.intro @mode_slices_partitionEqualCmpFunc_i_Edge @mode_slices_partitionCmpFunc_i_Edge))))))))))))))))))))))))))))))))))))))))))))))))))))))))))) := (And.intro @mode_FnSwapSystem (And.intro @mode_s_DrawSwapSystem (And.intro @mode_i_SwapSystem (And.intro @mode_s_SwapSystem (And.intro @mode_agSystems (And.intro @mode_i_WordAt (And.intro @mode_i_StatesAfter (And.intro @mode_i_SwapWord (And.intro @mode_i_SystemValid (And.intro @mode_s_l19Open (And.intro @mode_s_l2Any (And.intro @mode_s_l17Two (And.intro @mode_i_isLetter (And.intro @mode_i_SwapAlphabet (And.intro @mode_i_swapped (And.intro @mode_slices_SortFunc_i_Edge_i_Edge (And.intro @mode_i_compareEdges (And.intro @mode_s_SystemValid (And.intro @mode_s_l17Letter (And.intro @mode_s_l17Swap (And.intro @mode_s_SwapAlphabet (And.intro @mode_s_l17Sorted (And.intro @mode_i_isAlphabet (And.intro @mode_i_lettersOf (And.intro @mode_i_letterByte (And.intro @mode_slices_Reverse_byte_byte (And.intro @mode_i_WordWithin (And.intro @mode_i_movesOf (And.intro @mode_i_moves_step (And.intro @mode_i_letterAt (And.intro @mode_i_WordValid (And.intro @mode_i_isState (And.intro @mode_i_has (And.intro @mode_s_l2Edge (And.intro @mode_s_l19Rd_pick (And.intro @mode_s_l2Big (And.intro @mode_s_l2Wrong (And.intro @mode_s_l2Draw (And.intro @mode_s_l19Rd_num (And.intro @mode_slices_pdqsortCmpFunc_i_Edge (And.intro @mode_math_bits_Len (And.intro @mode_cmp_Or_int (And.intro @mode_cmp_Compare_int (And.intro @mode_s_l1Alphabet (And.intro @mode_s_l2Before (And.intro @mode_s_l1Has (And.intro @mode_s_l1Bit (And.intro @mode_math_bits_TrailingZeros (And.intro @mode_s_ParseSystem (And.intro @mode_s_l19Rd_of (And.intro @mode_s_l2Texts (And.intro @mode_s_l2Random (And.intro @mode_slices_insertionSortCmpFunc_i_Edge (And.intro @mode_slices_heapSortCmpFunc_i_Edge (And.intro @mode_slices_breakPatternsCmpFunc_i_Edge (And.intro @mode_slices_choosePivotCmpFunc_i_Edge (And.intro @mode_slices_reverseRangeCmpFunc_i_Edge (And.intro @mode_slices_partialInsertionSortCmpFunc_i_Edge (And.intro @mode_slices_partitionEqualCmpFunc_i_Edge @mode_slices_partitionCmpFunc_i_Edge)))))))))))))))))))))))))))))))))))))))))))))))))))))))))))
theorem MD1 : type_of% (And.intro @mode_math_bits_Len32 (And.intro @mode_math_bits_Len64 (And.intro @mode_cmp_isNaN_int (And.intro @mode_math_bits_TrailingZeros32 (And.intro @mode_math_bits_TrailingZeros64 (And.intro @mode_s_l19Cut (And.intro @mode_s_ParseAlphabet (And.intro @mode_s_l19Num (And.intro @mode_s_l2Parse (And.intro @mode_s_FormatSystem (And.intro @mode_s_l1Letters (And.intro @mode_slices_siftDownCmpFunc_i_Edge (And.intro @mode_slices_nextPowerOfTwo (And.intro @mode_slices_medianAdjacentCmpFunc_i_Edge (And.intro @mode_slices_medianCmpFunc_i_Edge (And.intro @mode_s_FormatAlphabet (And.intro @mode_s_l1At (And.intro @mode_s_l19Dec (And.intro @mode_s_l1Text @mode_slices_order2CmpFunc_i_Edge))))))))))))))))))) := (And.intro @mode_math_bits_Len32 (And.intro @mode_math_bits_Len64 (And.intro @mode_cmp_isNaN_int (And.intro @mode_math_bits_TrailingZeros32 (And.intro @mode_math_bits_TrailingZeros64 (And.intro @mode_s_l19Cut (And.intro @mode_s_ParseAlphabet (And.intro @mode_s_l19Num (And.intro @mode_s_l2Parse (And.intro @mode_s_FormatSystem (And.intro @mode_s_l1Letters (And.intro @mode_slices_siftDownCmpFunc_i_Edge (And.intro @mode_slices_nextPowerOfTwo (And.intro @mode_slices_medianAdjacentCmpFunc_i_Edge (And.intro @mode_slices_medianCmpFunc_i_Edge (And.intro @mode_s_FormatAlphabet (And.intro @mode_s_l1At (And.intro @mode_s_l19Dec (And.intro @mode_s_l1Text @mode_slices_order2CmpFunc_i_Edge)))))))))))))))))))
theorem MD : type_of% (And.intro @MD0 @MD1) := (And.intro @MD0 @MD1)

end Ev
end Go.Proofs.YtojaohcpgelhmaaDoor
