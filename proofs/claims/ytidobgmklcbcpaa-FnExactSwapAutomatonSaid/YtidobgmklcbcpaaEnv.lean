/-
  What the evaluator is told of each function, and each function's code as an equation. Written by a program.
-/
import Derived.Test.YtidobgmklcbcpaaEvSym
import Derived.Test.YtidobgmklcbcpaaEvPrim
import Derived.Test.YtidobgmklcbcpaaChecked
set_option maxRecDepth 100000
namespace Go.Proofs.Ytidobgmklcbcpaa
namespace Ev

/-- Truth values as the bits of a number. -/
def bitsL : Nat → Nat → List Bool
  | 0, _ => []
  | n + 1, k => (k % 2 == 1) :: bitsL n (k / 2)

noncomputable def hints : List (Nat × Hint) := [
  (8, { mode := 1, exp := false, thaw := [], live := bitsL 0 0 }),
  (19, { mode := 1, exp := false, thaw := [], live := bitsL 39 117440710 }),
  (21, { mode := 1, exp := false, thaw := [], live := bitsL 37 455 }),
  (32, { mode := 1, exp := false, thaw := [], live := bitsL 0 0 }),
  (33, { mode := 2, exp := false, thaw := [], live := bitsL 74 8142 }),
  (34, { mode := 2, exp := true, thaw := [], live := bitsL 0 0 }),
  (35, { mode := 3, exp := true, thaw := [0, 0, 0, 0, 0, 0, 0, 0, 0, 0, 0, 2, 0, 0, 0, 0, 0, 0, 0, 0, 0, 0, 0, 0, 0, 0, 0, 0, 0, 0, 0, 0, 0, 0, 0, 0, 0, 0, 0, 0, 0, 0, 0, 0, 0, 0, 0, 0, 0, 0, 0, 0, 0, 0, 0, 0, 0, 0, 0, 0, 0, 0, 0, 0, 0, 0, 0, 0, 0, 1002], live := bitsL 74 991759488257990 }),
  (36, { mode := 1, exp := false, thaw := [], live := bitsL 0 0 }),
  (37, { mode := 0, exp := false, thaw := [], live := bitsL 0 0 }),
  (38, { mode := 1, exp := false, thaw := [], live := bitsL 0 0 }),
  (48, { mode := 1, exp := false, thaw := [], live := bitsL 65 1972248982323214 }),
  (57, { mode := 1, exp := false, thaw := [], live := bitsL 0 0 }),
  (58, { mode := 1, exp := false, thaw := [], live := bitsL 0 0 }),
  (60, { mode := 1, exp := false, thaw := [], live := bitsL 0 0 }),
  (62, { mode := 1, exp := false, thaw := [], live := bitsL 0 0 }),
  (69, { mode := 1, exp := false, thaw := [], live := bitsL 0 0 }),
  (70, { mode := 2, exp := false, thaw := [0, 0, 0, 2], live := bitsL 17 45 }),
  (72, { mode := 1, exp := false, thaw := [], live := bitsL 0 0 }),
  (73, { mode := 1, exp := false, thaw := [], live := bitsL 0 0 }),
  (74, { mode := 1, exp := false, thaw := [], live := bitsL 0 0 }),
  (76, { mode := 1, exp := false, thaw := [], live := bitsL 0 0 }),
  (89, { mode := 1, exp := false, thaw := [], live := bitsL 27 51 }),
  (90, { mode := 1, exp := false, thaw := [], live := bitsL 0 0 }),
  (91, { mode := 1, exp := false, thaw := [], live := bitsL 44 30 }),
  (92, { mode := 2, exp := false, thaw := [], live := bitsL 18 29 }),
  (93, { mode := 1, exp := false, thaw := [], live := bitsL 0 0 }),
  (94, { mode := 2, exp := true, thaw := [0, 0, 0, 0, 0, 0, 0, 1002], live := bitsL 23 29 }),
  (95, { mode := 2, exp := true, thaw := [], live := bitsL 22 29 }),
  (96, { mode := 2, exp := false, thaw := [], live := bitsL 54 240553558140 }),
  (97, { mode := 0, exp := true, thaw := [], live := bitsL 0 0 }),
  (98, { mode := 1, exp := false, thaw := [], live := bitsL 27 51 }),
  (99, { mode := 1, exp := false, thaw := [], live := bitsL 26 51 }),
  (100, { mode := 0, exp := false, thaw := [], live := bitsL 19 51 }),
  (101, { mode := 0, exp := false, thaw := [], live := bitsL 21 51 }),
  (102, { mode := 1, exp := false, thaw := [], live := bitsL 21 51 }),
  (103, { mode := 1, exp := false, thaw := [], live := bitsL 23 51 }),
  (129, { mode := 1, exp := false, thaw := [], live := bitsL 0 0 }),
  (130, { mode := 1, exp := false, thaw := [], live := bitsL 31 197 }),
  (131, { mode := 1, exp := false, thaw := [], live := bitsL 18 115 }),
  (132, { mode := 2, exp := true, thaw := [], live := bitsL 22 29 }),
  (133, { mode := 1, exp := false, thaw := [], live := bitsL 26 51 }),
  (134, { mode := 0, exp := false, thaw := [], live := bitsL 19 51 }),
  (135, { mode := 1, exp := false, thaw := [], live := bitsL 21 51 })]

noncomputable def eqTypes : List (TypeId × Nat) := [(49, 3)]
noncomputable def prims : List (Nat × (List A → H → Option (A × H))) := [(97, gClone 1)]

noncomputable def env : Env := { P := Try.prog, hint := fun f => (hints.lookup f).getD {}, eqs := eqTypes, prim := fun f => prims.lookup f }

theorem mode_FnExactSwapAutomaton : (env.hint 8).mode = 1 := by kernel_rfl
theorem mode_i_SwapAlphabet : (env.hint 19).mode = 1 := by kernel_rfl
theorem mode_s_SwapAlphabet : (env.hint 21).mode = 1 := by kernel_rfl
theorem mode_szAutomaton : (env.hint 32).mode = 1 := by kernel_rfl
theorem mode_s_SwapAutomaton : (env.hint 33).mode = 2 := by kernel_rfl
theorem mode_toAutomaton : (env.hint 34).mode = 2 := by kernel_rfl
theorem mode_i_SwapAutomaton : (env.hint 35).mode = 3 := by kernel_rfl
theorem mode_eqAutomaton : (env.hint 36).mode = 1 := by kernel_rfl
theorem mode_markAutomaton : (env.hint 37).mode = 0 := by kernel_rfl
theorem mode_heldAutomaton : (env.hint 38).mode = 1 := by kernel_rfl
theorem mode_i_AutomatonValid : (env.hint 48).mode = 1 := by kernel_rfl
theorem mode_s_l17Letter : (env.hint 57).mode = 1 := by kernel_rfl
theorem mode_s_l17Swap : (env.hint 58).mode = 1 := by kernel_rfl
theorem mode_i_isLetter : (env.hint 60).mode = 1 := by kernel_rfl
theorem mode_i_swapped : (env.hint 62).mode = 1 := by kernel_rfl
theorem mode_i_isAlphabet : (env.hint 69).mode = 1 := by kernel_rfl
theorem mode_i_lettersOf : (env.hint 70).mode = 2 := by kernel_rfl
theorem mode_s_l1Alphabet : (env.hint 72).mode = 1 := by kernel_rfl
theorem mode_s_l1Has : (env.hint 73).mode = 1 := by kernel_rfl
theorem mode_s_l1Bit : (env.hint 74).mode = 1 := by kernel_rfl
theorem mode_i_has : (env.hint 76).mode = 1 := by kernel_rfl
theorem mode_szIntSS : (env.hint 89).mode = 1 := by kernel_rfl
theorem mode_szBoolS : (env.hint 90).mode = 1 := by kernel_rfl
theorem mode_s_AutomatonValid : (env.hint 91).mode = 1 := by kernel_rfl
theorem mode_s_l1Letters : (env.hint 92).mode = 2 := by kernel_rfl
theorem mode_s_l3Go : (env.hint 93).mode = 1 := by kernel_rfl
theorem mode_toIntSS : (env.hint 94).mode = 2 := by kernel_rfl
theorem mode_toBoolS : (env.hint 95).mode = 2 := by kernel_rfl
theorem mode_i_tableOf : (env.hint 96).mode = 2 := by kernel_rfl
theorem mode_slices_Clone_bool_bool : (env.hint 97).mode = 0 := by kernel_rfl
theorem mode_eqIntSS : (env.hint 98).mode = 1 := by kernel_rfl
theorem mode_eqBoolS : (env.hint 99).mode = 1 := by kernel_rfl
theorem mode_markIntSS : (env.hint 100).mode = 0 := by kernel_rfl
theorem mode_markBoolS : (env.hint 101).mode = 0 := by kernel_rfl
theorem mode_heldIntSS : (env.hint 102).mode = 1 := by kernel_rfl
theorem mode_heldBoolS : (env.hint 103).mode = 1 := by kernel_rfl
theorem mode_szIntS : (env.hint 129).mode = 1 := by kernel_rfl
theorem mode_s_l3Row : (env.hint 130).mode = 1 := by kernel_rfl
theorem mode_s_l1Place : (env.hint 131).mode = 1 := by kernel_rfl
theorem mode_toIntS : (env.hint 132).mode = 2 := by kernel_rfl
theorem mode_eqIntS : (env.hint 133).mode = 1 := by kernel_rfl
theorem mode_markIntS : (env.hint 134).mode = 0 := by kernel_rfl
theorem mode_heldIntS : (env.hint 135).mode = 1 := by kernel_rfl
theorem MD0 : type_of% (And.intro @mode_FnExactSwapAutomaton (And.intro @mode_i_SwapAlphabet (And.intro @mode_s_SwapAlphabet (And.intro @mode_szAutomaton (And.intro @mode_s_SwapAutomaton (And.intro @mode_toAutomaton (And.intro @mode_i_SwapAutomaton (And.intro @mode_eqAutomaton (And.intro @mode_markAutomaton (And.intro @mode_heldAutomaton (And.intro @mode_i_AutomatonValid (And.intro @mode_s_l17Letter (And.intro @mode_s_l17Swap (And.intro @mode_i_isLetter (And.intro @mode_i_swapped (And.intro @mode_i_isAlphabet (And.intro @mode_i_lettersOf (And.intro @mode_s_l1Alphabet (And.intro @mode_s_l1Has (And.intro @mode_s_l1Bit (And.intro @mode_i_has (And.intro @mode_szIntSS (And.intro @mode_szBoolS (And.intro @mode_s_AutomatonValid (And.intro @mode_s_l1Letters (And.intro @mode_s_l3Go (And.intro @mode_toIntSS (And.intro @mode_toBoolS (And.intro @mode_i_tableOf (And.intro @mode_slices_Clone_bool_bool (And.intro @mode_eqIntSS (And.intro @mode_eqBoolS (And.intro @mode_markIntSS (And.intro @mode_markBoolS (And.intro @mode_heldIntSS (And.intro @mode_heldBoolS (And.intro @mode_szIntS (And.intro @mode_s_l3Row (And.intro @mode_s_l1Place (And.intro @mode_toIntS (And.intro @mode_eqIntS (And.intro @mode_markIntS @mode_heldIntS)))))))))))))))))))))))))))))))))))))))))) := (And.intro @mode_FnExactSwapAutomaton (And.intro @mode_i_SwapAlphabet (And.intro @mode_s_SwapAlphabet (And.intro @mode_szAutomaton (And.intro @mode_s_SwapAutomaton (And.intro @mode_toAutomaton (And.intro @mode_i_SwapAutomaton (And.intro @mode_eqAutomaton (And.intro @mode_markAutomaton (And.intro @mode_heldAutomaton (And.intro @mode_i_AutomatonValid (And.intro @mode_s_l17Letter (And.intro @mode_s_l17Swap (And.intro @mode_i_isLetter (And.intro @mode_i_swapped (And.intro @mode_i_isAlphabet (And.intro @mode_i_lettersOf (And.intro @mode_s_l1Alphabet (And.intro @mode_s_l1Has (And.intro @mode_s_l1Bit (And.intro @mode_i_has (And.intro @mode_szIntSS (And.intro @mode_szBoolS (And.intro @mode_s_AutomatonValid (And.intro @mode_s_l1Letters (And.intro @mode_s_l3Go (And.intro @mode_toIntSS (And.intro @mode_toBoolS (And.intro @mode_i_tableOf (And.intro @mode_slices_Clone_bool_bool (And.intro @mode_eqIntSS (And.intro @mode_eqBoolS (And.intro @mode_markIntSS (And.intro @mode_markBoolS (And.intro @mode_heldIntSS (And.intro @mode_heldBoolS (And.intro @mode_szIntS (And.intro @mode_s_l3Row (And.intro @mode_s_l1Place (And.intro @mode_toIntS (And.intro @mode_eqIntS (And.intro @mode_markIntS @mode_heldIntS))))))))))))))))))))))))))))))))))))))))))
theorem MD : type_of% @MD0 := @MD0

end Ev
end Go.Proofs.Ytidobgmklcbcpaa
