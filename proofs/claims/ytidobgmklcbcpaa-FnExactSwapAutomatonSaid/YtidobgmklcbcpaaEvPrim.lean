/-
  What the evaluator answers for functions of the library.
-/
import Derived.Test.YtidobgmklcbcpaaEvDef
namespace Go.Proofs.Ytidobgmklcbcpaa
namespace Ev

/-- A new slice, the cells of another. -/
def gClone (esz : Nat) (args : List A) (h : H) : Option (A × H) := match args with
  | [.d (.str _)] => none
  | [x] => match sliceCells h esz x with
    | some (n, cs) => if n ≤ maxNeed then some (.sl h.length 0 0 n, h ++ [.arr cs esz 0]) else none
    | none => none
  | _ => none

/-! ### sorting edges -/

end Ev
end Go.Proofs.Ytidobgmklcbcpaa
