/-
  What the evaluator answers for functions of the library.
-/
import Derived.Test.YtojaohcpgelhmaaDoorEvDef
import Derived.Lib.TrailingZeros
namespace Go.Proofs.YtojaohcpgelhmaaDoor
namespace Ev

/-- A new slice, the cells of another. -/
def gClone (esz : Nat) (args : List A) (h : H) : Option (A × H) := match args with
  | [.d (.str _)] => none
  | [x] => match sliceCells h esz x with
    | some (n, cs) => if n ≤ maxNeed then some (.sl h.length 0 0 n, h ++ [.arr cs esz 0]) else none
    | none => none
  | _ => none

/-- Elements are taken out of a slice, in place. -/
def gDelete (esz : Nat) (args : List A) (h : H) : Option (A × H) := match args with
  | [.sl id gen off len, .d (.int .i64 i), .d (.int .i64 j)] => match h[id]? with
    | some (.arr cs e g) => if e = esz ∧ g = gen ∧ off = 0 ∧ 0 ≤ i ∧ i < j ∧ j ≤ len ∧ len ≤ maxNeed ∧ len * esz ≤ cs.length then
        some (.sl id (g + 1) 0 (len - (j.toNat - i.toNat)), h.set id (.arr (cs.take (i.toNat * esz) ++ (cs.drop (j.toNat * esz)).take ((len - j.toNat) * esz)) esz (g + 1)))
      else none
    | _ => none
  | _ => none

/-- One element is put into a slice, at a place; both lie in memory. -/
def gInsert (esz : Nat) (args : List A) (h : H) : Option (A × H) := match args with
  | [.sl id gen off len, .d (.int .i64 i), .sl id2 gen2 off2 len2] => match h[id]?, h[id2]? with
    | some (.arr cs e g), some (.arr vs e2 g2) => if id ≠ id2 ∧ e = esz ∧ e2 = esz ∧ g = gen ∧ g2 = gen2 ∧ off = 0 ∧ off2 = 0 ∧ len2 = 1 ∧ 0 ≤ i ∧ i ≤ len ∧ len + 1 ≤ maxNeed ∧ len * esz ≤ cs.length ∧ esz ≤ vs.length then
        some (.sl id (g + 1) 0 (len + 1), h.set id (.arr (cs.take (i.toNat * esz) ++ (vs.take esz ++ (cs.drop (i.toNat * esz)).take ((len - i.toNat) * esz))) esz (g + 1)))
      else none
    | _, _ => none
  | _ => none

/-! ### sorting edges -/

/-- math/bits.TrailingZeros. -/
def gCtz : List A → H → Option (A × H) := fun args h => match args with
  | [.d (.int .u64 n)] => if 0 ≤ n ∧ n < 18446744073709551616 then some (.d (.int .i64 (Lib.ctz 64 n.toNat)), h) else none
  | _ => none

end Ev
end Go.Proofs.YtojaohcpgelhmaaDoor
