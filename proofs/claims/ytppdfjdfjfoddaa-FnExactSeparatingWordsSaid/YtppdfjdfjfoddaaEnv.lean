/-
  What the evaluator is told of each function, and each function's code as an equation. Written by a program.
-/
import Derived.Test.YtppdfjdfjfoddaaEvPrim
import Derived.Test.YtppdfjdfjfoddaaChecked
set_option maxRecDepth 100000
namespace Go.Proofs.Ytppdfjdfjfoddaa
namespace Ev
def bitsL : Nat → Nat → List Bool
 | 0, _ => []
 | n + 1, k => (k % 2 == 1) :: bitsL n (k / 2)
noncomputable def hints : List (Nat × Hint) := [
 (4, { mode := 1, exp := false, thaw := [], live := bitsL 0 0 }),
 (15, { mode := 1, exp := false, thaw := [], live := bitsL 65 1972248982323214 }),
 (16, { mode := 1, exp := false, thaw := [], live := bitsL 0 0 }),
 (17, { mode := 2, exp := false, thaw := [], live := bitsL 47 62 }),
 (18, { mode := 2, exp := true, thaw := [], live := bitsL 0 0 }),
 (19, { mode := 3, exp := true, thaw := [], live := bitsL 47 49214 }),
 (20, { mode := 1, exp := false, thaw := [], live := bitsL 26 51 }),
 (21, { mode := 1, exp := false, thaw := [], live := bitsL 0 0 }),
 (22, { mode := 0, exp := false, thaw := [], live := bitsL 0 0 }),
 (23, { mode := 0, exp := false, thaw := [], live := bitsL 20 51 }),
 (24, { mode := 1, exp := false, thaw := [], live := bitsL 22 51 }),
 (36, { mode := 2, exp := false, thaw := [], live := bitsL 54 240553558140 }),
 (39, { mode := 2, exp := false, thaw := [0, 0, 0, 2], live := bitsL 17 45 }),
 (41, { mode := 1, exp := false, thaw := [], live := bitsL 44 30 }),
 (44, { mode := 2, exp := false, thaw := [], live := bitsL 18 29 }),
 (45, { mode := 1, exp := false, thaw := [], live := bitsL 0 0 }),
 (49, { mode := 1, exp := false, thaw := [], live := bitsL 0 0 }),
 (50, { mode := 1, exp := false, thaw := [], live := bitsL 0 0 }),
 (51, { mode := 0, exp := false, thaw := [], live := bitsL 28 13 }),
 (54, { mode := 1, exp := false, thaw := [], live := bitsL 27 51 }),
 (55, { mode := 1, exp := false, thaw := [], live := bitsL 0 0 }),
 (56, { mode := 1, exp := false, thaw := [], live := bitsL 0 0 }),
 (57, { mode := 1, exp := false, thaw := [], live := bitsL 18 51 }),
 (58, { mode := 2, exp := true, thaw := [0, 0, 0, 0, 0, 0, 0, 1002], live := bitsL 23 29 }),
 (59, { mode := 2, exp := true, thaw := [], live := bitsL 22 29 }),
 (60, { mode := 1, exp := false, thaw := [], live := bitsL 0 0 }),
 (61, { mode := 1, exp := false, thaw := [], live := bitsL 0 0 }),
 (62, { mode := 1, exp := false, thaw := [], live := bitsL 27 51 }),
 (63, { mode := 1, exp := false, thaw := [], live := bitsL 26 51 }),
 (64, { mode := 0, exp := false, thaw := [], live := bitsL 19 51 }),
 (65, { mode := 0, exp := false, thaw := [], live := bitsL 21 51 }),
 (66, { mode := 1, exp := false, thaw := [], live := bitsL 20 13 }),
 (68, { mode := 1, exp := false, thaw := [], live := bitsL 0 0 }),
 (79, { mode := 1, exp := false, thaw := [], live := bitsL 0 0 }),
 (80, { mode := 1, exp := false, thaw := [], live := bitsL 31 197 }),
 (81, { mode := 1, exp := false, thaw := [], live := bitsL 0 0 }),
 (83, { mode := 1, exp := false, thaw := [], live := bitsL 18 115 }),
 (84, { mode := 1, exp := false, thaw := [], live := bitsL 0 0 }),
 (85, { mode := 1, exp := false, thaw := [], live := bitsL 0 0 }),
 (86, { mode := 1, exp := false, thaw := [], live := bitsL 107 65534 }),
 (87, { mode := 2, exp := true, thaw := [], live := bitsL 22 29 }),
 (88, { mode := 1, exp := false, thaw := [], live := bitsL 0 0 }),
 (89, { mode := 0, exp := false, thaw := [], live := bitsL 0 0 }),
 (90, { mode := 1, exp := false, thaw := [], live := bitsL 19 403 }),
 (91, { mode := 1, exp := false, thaw := [], live := bitsL 26 51 }),
 (92, { mode := 0, exp := false, thaw := [], live := bitsL 19 51 }),
 (108, { mode := 2, exp := false, thaw := [], live := bitsL 41 62 }),
 (109, { mode := 2, exp := false, thaw := [], live := bitsL 48 8142 }),
 (110, { mode := 1, exp := false, thaw := [], live := bitsL 64 196 }),
 (111, { mode := 2, exp := false, thaw := [], live := bitsL 33 115 }),
 (112, { mode := 0, exp := false, thaw := [], live := bitsL 35 115 }),
 (113, { mode := 1, exp := false, thaw := [], live := bitsL 25 115 }),
 (114, { mode := 2, exp := false, thaw := [], live := bitsL 64 31775 }),
 (115, { mode := 1, exp := false, thaw := [], live := bitsL 0 0 }),
 (116, { mode := 0, exp := false, thaw := [], live := bitsL 0 0 }),
 (117, { mode := 1, exp := false, thaw := [0, 0, 0, 0, 0, 0, 0, 0, 0, 0, 0, 0, 0, 0, 0, 0, 0, 0, 2], live := bitsL 63 61632781151244 }),
 (118, { mode := 0, exp := false, thaw := [], live := bitsL 0 0 }),
 (119, { mode := 1, exp := false, thaw := [], live := bitsL 18 51 }),
 (139, { mode := 2, exp := false, thaw := [], live := bitsL 62 32542 }),
 (140, { mode := 1, exp := false, thaw := [], live := bitsL 0 0 }),
 (141, { mode := 1, exp := false, thaw := [], live := bitsL 36 455 }),
 (142, { mode := 0, exp := false, thaw := [0, 0, 0, 0, 0, 0, 0, 0, 0, 0, 2], live := bitsL 50 118331 }),
 (143, { mode := 1, exp := false, thaw := [0, 0, 0, 2], live := bitsL 32 29 }),
 (152, { mode := 2, exp := false, thaw := [], live := bitsL 79 3852 })]
noncomputable def eqTypes : List (TypeId × Nat) := []
noncomputable def prims : List (Nat × (List A → H → Option (A × H))) := []
noncomputable def env : Env := { P := Try.prog, hint := fun f => (hints.lookup f).getD {}, eqs := eqTypes, prim := fun f => prims.lookup f }
theorem x6w : (env.hint 4).mode = 1 := by kernel_rfl
theorem x3t : (env.hint 15).mode = 1 := by kernel_rfl
theorem x5t : (env.hint 16).mode = 1 := by kernel_rfl
theorem x56 : (env.hint 17).mode = 2 := by kernel_rfl
theorem x5s : (env.hint 18).mode = 2 := by kernel_rfl
theorem x2x : (env.hint 19).mode = 3 := by kernel_rfl
theorem x5o : (env.hint 20).mode = 1 := by kernel_rfl
theorem x6 : (env.hint 21).mode = 1 := by kernel_rfl
theorem x8o : (env.hint 22).mode = 0 := by kernel_rfl
theorem xan : (env.hint 23).mode = 0 := by kernel_rfl
theorem x77 : (env.hint 24).mode = 1 := by kernel_rfl
theorem xkb : (env.hint 36).mode = 2 := by kernel_rfl
theorem xh0 : (env.hint 39).mode = 2 := by kernel_rfl
theorem x3w : (env.hint 41).mode = 1 := by kernel_rfl
theorem xh4 : (env.hint 44).mode = 2 := by kernel_rfl
theorem x9q : (env.hint 45).mode = 1 := by kernel_rfl
theorem xfx : (env.hint 49).mode = 1 := by kernel_rfl
theorem xg2 : (env.hint 50).mode = 1 := by kernel_rfl
theorem x4o : (env.hint 51).mode = 0 := by kernel_rfl
theorem xgi : (env.hint 54).mode = 1 := by kernel_rfl
theorem xh1 : (env.hint 55).mode = 1 := by kernel_rfl
theorem x5b : (env.hint 56).mode = 1 := by kernel_rfl
theorem xhf : (env.hint 57).mode = 1 := by kernel_rfl
theorem xgn : (env.hint 58).mode = 2 := by kernel_rfl
theorem xgj : (env.hint 59).mode = 2 := by kernel_rfl
theorem x59 : (env.hint 60).mode = 1 := by kernel_rfl
theorem x3n : (env.hint 61).mode = 1 := by kernel_rfl
theorem x89 : (env.hint 62).mode = 1 := by kernel_rfl
theorem x82 : (env.hint 63).mode = 1 := by kernel_rfl
theorem xe2 : (env.hint 64).mode = 0 := by kernel_rfl
theorem xdq : (env.hint 65).mode = 0 := by kernel_rfl
theorem xl6 : (env.hint 66).mode = 1 := by kernel_rfl
theorem xqw : (env.hint 68).mode = 1 := by kernel_rfl
theorem xg9 : (env.hint 79).mode = 1 := by kernel_rfl
theorem xgv : (env.hint 80).mode = 1 := by kernel_rfl
theorem xnc : (env.hint 81).mode = 1 := by kernel_rfl
theorem xk4 : (env.hint 83).mode = 1 := by kernel_rfl
theorem xjb : (env.hint 84).mode = 1 := by kernel_rfl
theorem x6r : (env.hint 85).mode = 1 := by kernel_rfl
theorem xe0 : (env.hint 86).mode = 1 := by kernel_rfl
theorem xj0 : (env.hint 87).mode = 2 := by kernel_rfl
theorem x86 : (env.hint 88).mode = 1 := by kernel_rfl
theorem x6m : (env.hint 89).mode = 0 := by kernel_rfl
theorem x3y : (env.hint 90).mode = 1 := by kernel_rfl
theorem x9l : (env.hint 91).mode = 1 := by kernel_rfl
theorem xfj : (env.hint 92).mode = 0 := by kernel_rfl
theorem xdt : (env.hint 108).mode = 2 := by kernel_rfl
theorem xdx : (env.hint 109).mode = 2 := by kernel_rfl
theorem xe3 : (env.hint 110).mode = 1 := by kernel_rfl
theorem xif : (env.hint 111).mode = 2 := by kernel_rfl
theorem xfi : (env.hint 112).mode = 0 := by kernel_rfl
theorem x65 : (env.hint 113).mode = 1 := by kernel_rfl
theorem x5f : (env.hint 114).mode = 2 := by kernel_rfl
theorem xkz : (env.hint 115).mode = 1 := by kernel_rfl
theorem x6s : (env.hint 116).mode = 0 := by kernel_rfl
theorem xar : (env.hint 117).mode = 1 := by kernel_rfl
theorem xb6 : (env.hint 118).mode = 0 := by kernel_rfl
theorem xj4 : (env.hint 119).mode = 1 := by kernel_rfl
theorem xjf : (env.hint 139).mode = 2 := by kernel_rfl
theorem x1m : (env.hint 140).mode = 1 := by kernel_rfl
theorem x7e : (env.hint 141).mode = 1 := by kernel_rfl
theorem x5v : (env.hint 142).mode = 0 := by kernel_rfl
theorem xbl : (env.hint 143).mode = 1 := by kernel_rfl
theorem xhg : (env.hint 152).mode = 2 := by kernel_rfl
theorem MD0 : type_of% (And.intro @x6w (And.intro @x3t (And.intro @x5t (And.intro @x56 (And.intro @x5s (And.intro @x2x (And.intro @x5o (And.intro @x6 (And.intro @x8o (And.intro @xan (And.intro @x77 (And.intro @xkb (And.intro @xh0 (And.intro @x3w (And.intro @xh4 (And.intro @x9q (And.intro @xfx (And.intro @xg2 (And.intro @x4o (And.intro @xgi (And.intro @xh1 (And.intro @x5b (And.intro @xhf (And.intro @xgn (And.intro @xgj (And.intro @x59 (And.intro @x3n (And.intro @x89 (And.intro @x82 (And.intro @xe2 (And.intro @xdq (And.intro @xl6 (And.intro @xqw (And.intro @xg9 (And.intro @xgv (And.intro @xnc (And.intro @xk4 (And.intro @xjb (And.intro @x6r (And.intro @xe0 (And.intro @xj0 (And.intro @x86 (And.intro @x6m (And.intro @x3y (And.intro @x9l (And.intro @xfj (And.intro @xdt (And.intro @xdx (And.intro @xe3 (And.intro @xif (And.intro @xfi (And.intro @x65 (And.intro @x5f (And.intro @xkz (And.intro @x6s (And.intro @xar (And.intro @xb6 (And.intro @xj4 (And.intro @xjf @x1m))))))))))))))))))))))))))))))))))))))))))))))))))))))))))) := (And.intro @x6w (And.intro @x3t (And.intro @x5t (And.intro @x56 (And.intro @x5s (And.intro @x2x (And.intro @x5o (And.intro @x6 (And.intro @x8o (And.intro @xan (And.intro @x77 (And.intro @xkb (And.intro @xh0 (And.intro @x3w (And.intro @xh4 (And.intro @x9q (And.intro @xfx (And.intro @xg2 (And.intro @x4o (And.intro @xgi (And.intro @xh1 (And.intro @x5b (And.intro @xhf (And.intro @xgn (And.intro @xgj (And.intro @x59 (And.intro @x3n (And.intro @x89 (And.intro @x82 (And.intro @xe2 (And.intro @xdq (And.intro @xl6 (And.intro @xqw (And.intro @xg9 (And.intro @xgv (And.intro @xnc (And.intro @xk4 (And.intro @xjb (And.intro @x6r (And.intro @xe0 (And.intro @xj0 (And.intro @x86 (And.intro @x6m (And.intro @x3y (And.intro @x9l (And.intro @xfj (And.intro @xdt (And.intro @xdx (And.intro @xe3 (And.intro @xif (And.intro @xfi (And.intro @x65 (And.intro @x5f (And.intro @xkz (And.intro @x6s (And.intro @xar (And.intro @xb6 (And.intro @xj4 (And.intro @xjf @x1m)))))))))))))))))))))))))))))))))))))))))))))))))))))))))))
theorem MD1 : type_of% (And.intro @x7e (And.intro @x5v (And.intro @xbl @xhg))) := (And.intro @x7e (And.intro @x5v (And.intro @xbl @xhg)))
theorem MD : type_of% (And.intro @MD0 @MD1) := (And.intro @MD0 @MD1)
end Ev
end Go.Proofs.Ytppdfjdfjfoddaa
