/-
  What the evaluator is told of each function, and each function's code as an equation. Written by a program.
-/
import Derived.Test.YtidobgmklcbcpaaEvSym
import Derived.Test.YtidobgmklcbcpaaEvPrim
import Derived.Test.YtidobgmklcbcpaaChecked
set_option maxRecDepth 100000
namespace Go.Proofs.Ytidobgmklcbcpaa
namespace Ev

/-- Truth values as the bits of a number. -/
def bitsL : Nat → Nat → List Bool
  | 0, _ => []
  | n + 1, k => (k % 2 == 1) :: bitsL n (k / 2)

noncomputable def hints : List (Nat × Hint) := [
  (9, { mode := 1, exp := false, thaw := [], live := bitsL 0 0 }),
  (24, { mode := 1, exp := false, thaw := [], live := bitsL 0 0 }),
  (26, { mode := 2, exp := true, thaw := [], live := bitsL 0 0 }),
  (27, { mode := 2, exp := false, thaw := [], live := bitsL 0 0 }),
  (29, { mode := 1, exp := false, thaw := [], live := bitsL 0 0 }),
  (30, { mode := 0, exp := false, thaw := [], live := bitsL 0 0 }),
  (31, { mode := 1, exp := false, thaw := [], live := bitsL 0 0 }),
  (39, { mode := 2, exp := false, thaw := [], live := bitsL 0 0 }),
  (40, { mode := 3, exp := true, thaw := [], live := bitsL 0 0 }),
  (43, { mode := 1, exp := false, thaw := [], live := bitsL 68 7340038 }),
  (69, { mode := 1, exp := false, thaw := [], live := bitsL 0 0 }),
  (72, { mode := 1, exp := false, thaw := [], live := bitsL 0 0 }),
  (73, { mode := 1, exp := false, thaw := [], live := bitsL 0 0 }),
  (76, { mode := 1, exp := false, thaw := [], live := bitsL 0 0 }),
  (77, { mode := 1, exp := false, thaw := [], live := bitsL 0 0 }),
  (78, { mode := 1, exp := false, thaw := [], live := bitsL 55 14 }),
  (79, { mode := 1, exp := false, thaw := [], live := bitsL 19 57 }),
  (81, { mode := 2, exp := true, thaw := [], live := bitsL 23 29 }),
  (82, { mode := 1, exp := false, thaw := [], live := bitsL 49 2005 }),
  (83, { mode := 1, exp := false, thaw := [], live := bitsL 0 0 }),
  (85, { mode := 0, exp := true, thaw := [], live := bitsL 0 0 }),
  (86, { mode := 1, exp := false, thaw := [], live := bitsL 27 51 }),
  (87, { mode := 0, exp := false, thaw := [], live := bitsL 34 51 }),
  (88, { mode := 1, exp := false, thaw := [], live := bitsL 40 51 }),
  (104, { mode := 1, exp := false, thaw := [], live := bitsL 0 0 }),
  (105, { mode := 2, exp := false, thaw := [], live := bitsL 48 61 }),
  (106, { mode := 0, exp := true, thaw := [], live := bitsL 0 0 }),
  (109, { mode := 1, exp := false, thaw := [], live := bitsL 0 0 }),
  (125, { mode := 1, exp := false, thaw := [], live := bitsL 0 0 }),
  (126, { mode := 1, exp := false, thaw := [], live := bitsL 18 460 }),
  (127, { mode := 1, exp := false, thaw := [], live := bitsL 0 0 }),
  (128, { mode := 1, exp := false, thaw := [], live := bitsL 0 0 }),
  (137, { mode := 1, exp := false, thaw := [], live := bitsL 0 0 }),
  (151, { mode := 1, exp := false, thaw := [], live := bitsL 0 0 }),
  (152, { mode := 1, exp := false, thaw := [], live := bitsL 0 0 }),
  (180, { mode := 0, exp := false, thaw := [], live := bitsL 28 13 })]

noncomputable def eqTypes : List (TypeId × Nat) := [(49, 3)]
noncomputable def prims : List (Nat × (List A → H → Option (A × H))) := [(85, gClone 3), (106, gInsert 3)]

noncomputable def env : Env := { P := Try.prog, hint := fun f => (hints.lookup f).getD {}, eqs := eqTypes, prim := fun f => prims.lookup f }

theorem mode_FnExactAddEdge : (env.hint 9).mode = 1 := by kernel_rfl
theorem mode_szSystem : (env.hint 24).mode = 1 := by kernel_rfl
theorem mode_toSystem : (env.hint 26).mode = 2 := by kernel_rfl
theorem mode_toEdge : (env.hint 27).mode = 2 := by kernel_rfl
theorem mode_eqSystem : (env.hint 29).mode = 1 := by kernel_rfl
theorem mode_markSystem : (env.hint 30).mode = 0 := by kernel_rfl
theorem mode_heldSystem : (env.hint 31).mode = 1 := by kernel_rfl
theorem mode_s_AddEdge : (env.hint 39).mode = 2 := by kernel_rfl
theorem mode_i_AddEdge : (env.hint 40).mode = 3 := by kernel_rfl
theorem mode_i_SystemValid : (env.hint 43).mode = 1 := by kernel_rfl
theorem mode_i_isAlphabet : (env.hint 69).mode = 1 := by kernel_rfl
theorem mode_s_l1Alphabet : (env.hint 72).mode = 1 := by kernel_rfl
theorem mode_s_l1Has : (env.hint 73).mode = 1 := by kernel_rfl
theorem mode_i_has : (env.hint 76).mode = 1 := by kernel_rfl
theorem mode_szEdgeS : (env.hint 77).mode = 1 := by kernel_rfl
theorem mode_s_SystemValid : (env.hint 78).mode = 1 := by kernel_rfl
theorem mode_s_l17Index : (env.hint 79).mode = 1 := by kernel_rfl
theorem mode_toEdgeS : (env.hint 81).mode = 2 := by kernel_rfl
theorem mode_slices_BinarySearchFunc_i_Edge_i_Edge_i_Edge : (env.hint 82).mode = 1 := by kernel_rfl
theorem mode_i_compareEdges : (env.hint 83).mode = 1 := by kernel_rfl
theorem mode_slices_Clone_i_Edge_i_Edge : (env.hint 85).mode = 0 := by kernel_rfl
theorem mode_eqEdgeS : (env.hint 86).mode = 1 := by kernel_rfl
theorem mode_markEdgeS : (env.hint 87).mode = 0 := by kernel_rfl
theorem mode_heldEdgeS : (env.hint 88).mode = 1 := by kernel_rfl
theorem mode_s_l2Edge : (env.hint 104).mode = 1 := by kernel_rfl
theorem mode_s_l17Sorted : (env.hint 105).mode = 2 := by kernel_rfl
theorem mode_slices_Insert_i_Edge_i_Edge : (env.hint 106).mode = 0 := by kernel_rfl
theorem mode_i_isState : (env.hint 109).mode = 1 := by kernel_rfl
theorem mode_s_l2Before : (env.hint 125).mode = 1 := by kernel_rfl
theorem mode_cmp_Or_int : (env.hint 126).mode = 1 := by kernel_rfl
theorem mode_cmp_Compare_int : (env.hint 127).mode = 1 := by kernel_rfl
theorem mode_eqEdge : (env.hint 128).mode = 1 := by kernel_rfl
theorem mode_slices_rotateRight_i_Edge : (env.hint 137).mode = 1 := by kernel_rfl
theorem mode_cmp_isNaN_int : (env.hint 151).mode = 1 := by kernel_rfl
theorem mode_slices_rotateLeft_i_Edge : (env.hint 152).mode = 1 := by kernel_rfl
theorem mode_slices_Reverse_i_Edge_i_Edge : (env.hint 180).mode = 0 := by kernel_rfl
theorem MD0 : type_of% (And.intro @mode_FnExactAddEdge (And.intro @mode_szSystem (And.intro @mode_toSystem (And.intro @mode_toEdge (And.intro @mode_eqSystem (And.intro @mode_markSystem (And.intro @mode_heldSystem (And.intro @mode_s_AddEdge (And.intro @mode_i_AddEdge (And.intro @mode_i_SystemValid (And.intro @mode_i_isAlphabet (And.intro @mode_s_l1Alphabet (And.intro @mode_s_l1Has (And.intro @mode_i_has (And.intro @mode_szEdgeS (And.intro @mode_s_SystemValid (And.intro @mode_s_l17Index (And.intro @mode_toEdgeS (And.intro @mode_slices_BinarySearchFunc_i_Edge_i_Edge_i_Edge (And.intro @mode_i_compareEdges (And.intro @mode_slices_Clone_i_Edge_i_Edge (And.intro @mode_eqEdgeS (And.intro @mode_markEdgeS (And.intro @mode_heldEdgeS (And.intro @mode_s_l2Edge (And.intro @mode_s_l17Sorted (And.intro @mode_slices_Insert_i_Edge_i_Edge (And.intro @mode_i_isState (And.intro @mode_s_l2Before (And.intro @mode_cmp_Or_int (And.intro @mode_cmp_Compare_int (And.intro @mode_eqEdge (And.intro @mode_slices_rotateRight_i_Edge (And.intro @mode_cmp_isNaN_int (And.intro @mode_slices_rotateLeft_i_Edge @mode_slices_Reverse_i_Edge_i_Edge))))))))))))))))))))))))))))))))))) := (And.intro @mode_FnExactAddEdge (And.intro @mode_szSystem (And.intro @mode_toSystem (And.intro @mode_toEdge (And.intro @mode_eqSystem (And.intro @mode_markSystem (And.intro @mode_heldSystem (And.intro @mode_s_AddEdge (And.intro @mode_i_AddEdge (And.intro @mode_i_SystemValid (And.intro @mode_i_isAlphabet (And.intro @mode_s_l1Alphabet (And.intro @mode_s_l1Has (And.intro @mode_i_has (And.intro @mode_szEdgeS (And.intro @mode_s_SystemValid (And.intro @mode_s_l17Index (And.intro @mode_toEdgeS (And.intro @mode_slices_BinarySearchFunc_i_Edge_i_Edge_i_Edge (And.intro @mode_i_compareEdges (And.intro @mode_slices_Clone_i_Edge_i_Edge (And.intro @mode_eqEdgeS (And.intro @mode_markEdgeS (And.intro @mode_heldEdgeS (And.intro @mode_s_l2Edge (And.intro @mode_s_l17Sorted (And.intro @mode_slices_Insert_i_Edge_i_Edge (And.intro @mode_i_isState (And.intro @mode_s_l2Before (And.intro @mode_cmp_Or_int (And.intro @mode_cmp_Compare_int (And.intro @mode_eqEdge (And.intro @mode_slices_rotateRight_i_Edge (And.intro @mode_cmp_isNaN_int (And.intro @mode_slices_rotateLeft_i_Edge @mode_slices_Reverse_i_Edge_i_Edge)))))))))))))))))))))))))))))))))))
theorem MD : type_of% @MD0 := @MD0

end Ev
end Go.Proofs.Ytidobgmklcbcpaa
