/-
  What the evaluator is told of each function, and each function's code as an equation. Written by a program.
-/
import Derived.Test.YtppdfjdfjfoddaaEvPrim
import Derived.Test.YtppdfjdfjfoddaaChecked
set_option maxRecDepth 100000
namespace Go.Proofs.Ytppdfjdfjfoddaa
namespace Ev
def bitsL : Nat → Nat → List Bool
 | 0, _ => []
 | n + 1, k => (k % 2 == 1) :: bitsL n (k / 2)
noncomputable def hints : List (Nat × Hint) := [
 (3, { mode := 1, exp := false, thaw := [], live := bitsL 99 1148 }),
 (8, { mode := 2, exp := false, thaw := [], live := bitsL 0 0 }),
 (9, { mode := 2, exp := false, thaw := [0, 0, 0, 0, 0, 0, 0, 0, 0, 0, 0, 2], live := bitsL 74 991759488257990 }),
 (10, { mode := 2, exp := false, thaw := [], live := bitsL 74 8142 }),
 (11, { mode := 1, exp := false, thaw := [], live := bitsL 47 60 }),
 (12, { mode := 1, exp := false, thaw := [0, 0, 0, 0, 0, 0, 0, 2], live := bitsL 48 241 }),
 (13, { mode := 1, exp := false, thaw := [], live := bitsL 35 6291570 }),
 (14, { mode := 1, exp := false, thaw := [], live := bitsL 43 201326791 }),
 (15, { mode := 1, exp := false, thaw := [], live := bitsL 65 1972248982323214 }),
 (28, { mode := 1, exp := false, thaw := [], live := bitsL 26 98323 }),
 (32, { mode := 2, exp := true, thaw := [], live := bitsL 0 0 }),
 (33, { mode := 0, exp := false, thaw := [], live := bitsL 0 0 }),
 (34, { mode := 0, exp := false, thaw := [], live := bitsL 0 0 }),
 (35, { mode := 1, exp := false, thaw := [], live := bitsL 0 0 }),
 (36, { mode := 2, exp := false, thaw := [], live := bitsL 54 240553558140 }),
 (37, { mode := 1, exp := false, thaw := [], live := bitsL 39 117440710 }),
 (38, { mode := 0, exp := true, thaw := [], live := bitsL 0 0 }),
 (39, { mode := 2, exp := false, thaw := [0, 0, 0, 2], live := bitsL 17 45 }),
 (40, { mode := 1, exp := false, thaw := [], live := bitsL 0 0 }),
 (41, { mode := 1, exp := false, thaw := [], live := bitsL 44 30 }),
 (42, { mode := 1, exp := false, thaw := [], live := bitsL 0 0 }),
 (43, { mode := 1, exp := false, thaw := [], live := bitsL 37 455 }),
 (44, { mode := 2, exp := false, thaw := [], live := bitsL 18 29 }),
 (45, { mode := 1, exp := false, thaw := [], live := bitsL 0 0 }),
 (46, { mode := 1, exp := false, thaw := [], live := bitsL 0 0 }),
 (47, { mode := 1, exp := false, thaw := [], live := bitsL 26 51 }),
 (48, { mode := 1, exp := false, thaw := [], live := bitsL 26 51 }),
 (49, { mode := 1, exp := false, thaw := [], live := bitsL 0 0 }),
 (50, { mode := 1, exp := false, thaw := [], live := bitsL 0 0 }),
 (51, { mode := 0, exp := false, thaw := [], live := bitsL 28 13 }),
 (52, { mode := 1, exp := false, thaw := [], live := bitsL 0 0 }),
 (53, { mode := 1, exp := false, thaw := [], live := bitsL 0 0 }),
 (68, { mode := 1, exp := false, thaw := [], live := bitsL 0 0 }),
 (74, { mode := 0, exp := false, thaw := [], live := bitsL 0 0 }),
 (75, { mode := 0, exp := false, thaw := [], live := bitsL 36 29 }),
 (76, { mode := 0, exp := false, thaw := [0, 0, 0, 0, 0, 0, 0, 0, 0, 0, 0, 0, 0, 0, 0, 0, 0, 0, 0, 0, 0, 0, 0, 0, 0, 0, 0, 0, 0, 0, 0, 0, 0, 0, 0, 0, 0, 0, 0, 0, 0, 0, 0, 0, 0, 0, 0, 0, 0, 0, 0, 0, 0, 0, 0, 0, 0, 0, 0, 0, 0, 0, 0, 0, 0, 0, 0, 0, 0, 0, 0, 0, 0, 0, 0, 0, 0, 0, 0, 0, 0, 0, 0, 1002, 0, 0, 0, 0, 0, 0, 0, 0, 0, 0, 0, 0, 0, 0, 0, 0, 0, 0, 0, 0, 0, 1002], live := bitsL 114 112 }),
 (77, { mode := 0, exp := false, thaw := [], live := bitsL 0 0 }),
 (78, { mode := 0, exp := false, thaw := [], live := bitsL 0 0 }),
 (79, { mode := 1, exp := false, thaw := [], live := bitsL 0 0 }),
 (80, { mode := 1, exp := false, thaw := [], live := bitsL 31 197 }),
 (81, { mode := 1, exp := false, thaw := [], live := bitsL 0 0 }),
 (82, { mode := 1, exp := false, thaw := [], live := bitsL 0 0 }),
 (83, { mode := 1, exp := false, thaw := [], live := bitsL 18 115 }),
 (103, { mode := 2, exp := true, thaw := [0, 0, 0, 0, 0, 0, 0, 0, 0, 0, 0, 0, 0, 0, 0, 0, 0, 0, 0, 0, 0, 0, 0, 0, 0, 0, 0, 0, 1002], live := bitsL 32 30 }),
 (104, { mode := 2, exp := false, thaw := [], live := bitsL 72 413 }),
 (105, { mode := 0, exp := false, thaw := [], live := bitsL 0 0 }),
 (106, { mode := 2, exp := false, thaw := [], live := bitsL 0 0 }),
 (107, { mode := 0, exp := false, thaw := [], live := bitsL 0 0 }),
 (115, { mode := 1, exp := false, thaw := [], live := bitsL 0 0 }),
 (133, { mode := 2, exp := false, thaw := [], live := bitsL 36 243 }),
 (134, { mode := 1, exp := false, thaw := [], live := bitsL 14 29 }),
 (135, { mode := 2, exp := false, thaw := [], live := bitsL 36 124 }),
 (136, { mode := 1, exp := false, thaw := [], live := bitsL 54 94 }),
 (137, { mode := 0, exp := false, thaw := [], live := bitsL 49 964 }),
 (138, { mode := 0, exp := true, thaw := [0, 0, 0, 0, 0, 0, 0, 0, 0, 0, 0, 0, 0, 0, 0, 0, 0, 0, 0, 0, 0, 0, 0, 0, 0, 0, 0, 0, 0, 0, 0, 0, 0, 0, 0, 0, 0, 1002], live := bitsL 49 4037 }),
 (149, { mode := 1, exp := false, thaw := [], live := bitsL 27 60 }),
 (150, { mode := 1, exp := false, thaw := [], live := bitsL 67 125 }),
 (151, { mode := 1, exp := false, thaw := [], live := bitsL 31 13 })]
noncomputable def eqTypes : List (TypeId × Nat) := []
noncomputable def prims : List (Nat × (List A → H → Option (A × H))) := [(38, gClone 1)]
noncomputable def env : Env := { P := Try.prog, hint := fun f => (hints.lookup f).getD {}, eqs := eqTypes, prim := fun f => prims.lookup f }
theorem xa0 : (env.hint 3).mode = 1 := by kernel_rfl
theorem x7u : (env.hint 8).mode = 2 := by kernel_rfl
theorem xax : (env.hint 9).mode = 2 := by kernel_rfl
theorem xad : (env.hint 10).mode = 2 := by kernel_rfl
theorem x11 : (env.hint 11).mode = 1 := by kernel_rfl
theorem xhr : (env.hint 12).mode = 1 := by kernel_rfl
theorem x5c : (env.hint 13).mode = 1 := by kernel_rfl
theorem xew : (env.hint 14).mode = 1 := by kernel_rfl
theorem x3c : (env.hint 15).mode = 1 := by kernel_rfl
theorem xdd : (env.hint 28).mode = 1 := by kernel_rfl
theorem xgo : (env.hint 32).mode = 2 := by kernel_rfl
theorem xir : (env.hint 33).mode = 0 := by kernel_rfl
theorem xhx : (env.hint 34).mode = 0 := by kernel_rfl
theorem xfi : (env.hint 35).mode = 1 := by kernel_rfl
theorem xgz : (env.hint 36).mode = 2 := by kernel_rfl
theorem xbd : (env.hint 37).mode = 1 := by kernel_rfl
theorem x4q : (env.hint 38).mode = 0 := by kernel_rfl
theorem xeb : (env.hint 39).mode = 2 := by kernel_rfl
theorem xgb : (env.hint 40).mode = 1 := by kernel_rfl
theorem x3b : (env.hint 41).mode = 1 := by kernel_rfl
theorem xe3 : (env.hint 42).mode = 1 := by kernel_rfl
theorem xb9 : (env.hint 43).mode = 1 := by kernel_rfl
theorem xem : (env.hint 44).mode = 2 := by kernel_rfl
theorem x91 : (env.hint 45).mode = 1 := by kernel_rfl
theorem xg3 : (env.hint 46).mode = 1 := by kernel_rfl
theorem x7h : (env.hint 47).mode = 1 := by kernel_rfl
theorem x8y : (env.hint 48).mode = 1 := by kernel_rfl
theorem xd5 : (env.hint 49).mode = 1 := by kernel_rfl
theorem xdj : (env.hint 50).mode = 1 := by kernel_rfl
theorem x3z : (env.hint 51).mode = 0 := by kernel_rfl
theorem xf7 : (env.hint 52).mode = 1 := by kernel_rfl
theorem xe9 : (env.hint 53).mode = 1 := by kernel_rfl
theorem xkz : (env.hint 68).mode = 1 := by kernel_rfl
theorem xdi : (env.hint 74).mode = 0 := by kernel_rfl
theorem xj8 : (env.hint 75).mode = 0 := by kernel_rfl
theorem xgy : (env.hint 76).mode = 0 := by kernel_rfl
theorem xhf : (env.hint 77).mode = 0 := by kernel_rfl
theorem xds : (env.hint 78).mode = 0 := by kernel_rfl
theorem xde : (env.hint 79).mode = 1 := by kernel_rfl
theorem xei : (env.hint 80).mode = 1 := by kernel_rfl
theorem xiz : (env.hint 81).mode = 1 := by kernel_rfl
theorem xj5 : (env.hint 82).mode = 1 := by kernel_rfl
theorem xga : (env.hint 83).mode = 1 := by kernel_rfl
theorem xct : (env.hint 103).mode = 2 := by kernel_rfl
theorem x9r : (env.hint 104).mode = 2 := by kernel_rfl
theorem xfc : (env.hint 105).mode = 0 := by kernel_rfl
theorem xh0 : (env.hint 106).mode = 2 := by kernel_rfl
theorem xhj : (env.hint 107).mode = 0 := by kernel_rfl
theorem xhd : (env.hint 115).mode = 1 := by kernel_rfl
theorem xhm : (env.hint 133).mode = 2 := by kernel_rfl
theorem xa7 : (env.hint 134).mode = 1 := by kernel_rfl
theorem xgr : (env.hint 135).mode = 2 := by kernel_rfl
theorem x94 : (env.hint 136).mode = 1 := by kernel_rfl
theorem xi4 : (env.hint 137).mode = 0 := by kernel_rfl
theorem xeo : (env.hint 138).mode = 0 := by kernel_rfl
theorem x9s : (env.hint 149).mode = 1 := by kernel_rfl
theorem xhw : (env.hint 150).mode = 1 := by kernel_rfl
theorem xi3 : (env.hint 151).mode = 1 := by kernel_rfl
theorem MD0 : type_of% (And.intro @xa0 (And.intro @x7u (And.intro @xax (And.intro @xad (And.intro @x11 (And.intro @xhr (And.intro @x5c (And.intro @xew (And.intro @x3c (And.intro @xdd (And.intro @xgo (And.intro @xir (And.intro @xhx (And.intro @xfi (And.intro @xgz (And.intro @xbd (And.intro @x4q (And.intro @xeb (And.intro @xgb (And.intro @x3b (And.intro @xe3 (And.intro @xb9 (And.intro @xem (And.intro @x91 (And.intro @xg3 (And.intro @x7h (And.intro @x8y (And.intro @xd5 (And.intro @xdj (And.intro @x3z (And.intro @xf7 (And.intro @xe9 (And.intro @xkz (And.intro @xdi (And.intro @xj8 (And.intro @xgy (And.intro @xhf (And.intro @xds (And.intro @xde (And.intro @xei (And.intro @xiz (And.intro @xj5 (And.intro @xga (And.intro @xct (And.intro @x9r (And.intro @xfc (And.intro @xh0 (And.intro @xhj (And.intro @xhd (And.intro @xhm (And.intro @xa7 (And.intro @xgr (And.intro @x94 (And.intro @xi4 (And.intro @xeo (And.intro @x9s (And.intro @xhw @xi3))))))))))))))))))))))))))))))))))))))))))))))))))))))))) := (And.intro @xa0 (And.intro @x7u (And.intro @xax (And.intro @xad (And.intro @x11 (And.intro @xhr (And.intro @x5c (And.intro @xew (And.intro @x3c (And.intro @xdd (And.intro @xgo (And.intro @xir (And.intro @xhx (And.intro @xfi (And.intro @xgz (And.intro @xbd (And.intro @x4q (And.intro @xeb (And.intro @xgb (And.intro @x3b (And.intro @xe3 (And.intro @xb9 (And.intro @xem (And.intro @x91 (And.intro @xg3 (And.intro @x7h (And.intro @x8y (And.intro @xd5 (And.intro @xdj (And.intro @x3z (And.intro @xf7 (And.intro @xe9 (And.intro @xkz (And.intro @xdi (And.intro @xj8 (And.intro @xgy (And.intro @xhf (And.intro @xds (And.intro @xde (And.intro @xei (And.intro @xiz (And.intro @xj5 (And.intro @xga (And.intro @xct (And.intro @x9r (And.intro @xfc (And.intro @xh0 (And.intro @xhj (And.intro @xhd (And.intro @xhm (And.intro @xa7 (And.intro @xgr (And.intro @x94 (And.intro @xi4 (And.intro @xeo (And.intro @x9s (And.intro @xhw @xi3)))))))))))))))))))))))))))))))))))))))))))))))))))))))))
theorem MD : type_of% @MD0 := @MD0
end Ev
end Go.Proofs.Ytppdfjdfjfoddaa
