/-
  What the evaluator answers for functions of the library.
-/
import Derived.Test.YtojaohcpgelhmaaDoorEvDef
import Derived.Lib.TrailingZeros
namespace Go.Proofs.YtojaohcpgelhmaaDoor
namespace Ev

/-! ### sorting edges -/

/-- The numbers, three by three. -/
def trip : List D → Option (List (Int × Int × Int))
  | [] => some []
  | .int .i64 a :: .int .i64 b :: .int .i64 c :: ds => (trip ds).map ((a, b, c) :: ·)
  | _ => none

def tripD : List (Int × Int × Int) → List D
  | [] => []
  | (a, b, c) :: l => .int .i64 a :: .int .i64 b :: .int .i64 c :: tripD l

def cmpOne (a b : Int) : Int := if a < b then -1 else if b < a then 1 else 0

def firstOf : List Int → Int
  | [] => 0
  | a :: l => if a = 0 then firstOf l else a

def cmp3 (x y : Int × Int × Int) : Int := firstOf [cmpOne x.1 y.1, cmpOne x.2.1 y.2.1, cmpOne x.2.2 y.2.2]

def le3 (x y : Int × Int × Int) : Bool := !decide (cmp3 y x < 0)

/-- Edges are sorted in place. -/
def gSortE (g : FuncId) (args : List A) (h : H) : Option (A × H) := match args with
  | [.sl id gen off len, .clo f []] => match h[id]? with
    | some (.arr cs e gg) => if f = g ∧ gg = gen ∧ off = 0 ∧ (len = 0 ∨ e = 3) ∧ len * 3 ≤ cs.length ∧ len ≤ maxNeed then
        match trip (cs.take (len * 3)) with
        | some l => some (.tup [], h.set id (.arr (tripD (l.mergeSort le3) ++ cs.drop (len * 3)) e gg))
        | none => none
      else none
    | _ => none
  | _ => none

/-- math/bits.TrailingZeros. -/
def gCtz : List A → H → Option (A × H) := fun args h => match args with
  | [.d (.int .u64 n)] => if 0 ≤ n ∧ n < 18446744073709551616 then some (.d (.int .i64 (Lib.ctz 64 n.toNat)), h) else none
  | _ => none

end Ev
end Go.Proofs.YtojaohcpgelhmaaDoor
