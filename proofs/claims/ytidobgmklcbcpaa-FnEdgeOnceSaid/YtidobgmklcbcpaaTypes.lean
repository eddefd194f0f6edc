/-
  What the types of the program are.
-/
import Derived.Test.YtidobgmklcbcpaaTy
import Derived.IntWalk
set_option linter.unusedSimpArgs false
namespace Go.Proofs.Ytidobgmklcbcpaa
namespace Ev

theorem i64_id {n : Int} (h1 : -9223372036854775808 ≤ n) (h2 : n ≤ 9223372036854775807) : IntKind.i64.wrap n = n := IntWalk.i64_in n ⟨h1, h2⟩
theorem u64_id {n : Int} (h1 : 0 ≤ n) (h2 : n ≤ 18446744073709551615) : IntKind.u64.wrap n = n := IntWalk.u64_in n ⟨h1, h2⟩
theorem u_int : env.P.underlying 3 = some (.int .i64) := by kernel_rfl
theorem u_uint : env.P.underlying 133 = some (.int .u64) := by kernel_rfl
theorem u_bool : env.P.underlying 4 = some .bool := by kernel_rfl
theorem u_string : env.P.underlying 9 = some .string := by kernel_rfl
theorem u_ints : env.P.underlying 92 = some (.slice 3) := by kernel_rfl
theorem u_bytes : env.P.underlying 24 = some (.slice 5) := by kernel_rfl
theorem c_int : env.P.cellsOf 3 = 1 := by kernel_rfl
theorem c_uint8 : env.P.cellsOf 5 = 1 := by kernel_rfl
theorem conv_int_uint {h : H} {n : Int} {K : IntKind} : aConvert env.P h 3 133 (.d (.int K n)) = some (.d (.int .u64 (IntKind.u64.wrap n)), h) := aConv_int u_int u_uint
/-! ### lists of numbers -/

def ints (l : List Int) : List D := l.map (.int .i64)
def bytesL (l : List UInt8) : List D := l.map fun b => .int .u8 b.toNat

theorem ints_length {l : List Int} : (ints l).length = l.length := by simp [ints]
theorem ints_snoc {l : List Int} {v : Int} : ints l ++ [.int .i64 v] = ints (l ++ [v]) := by simp [ints]
theorem ints_take {l : List Int} {k : Nat} (h : l.length ≤ k) : (ints l).take k = ints l := List.take_of_length_le (by rw [ints_length]; exact h)
theorem ints_head {l : List Int} {k : Nat} (h : k < l.length) : (((ints l).drop k).map A.d).head? = some (.d (.int .i64 (l.getD k 0))) := by
  rw [List.head?_map, List.head?_drop, ints, List.getElem?_map, List.getD_eq_getElem?_getD, List.getElem?_eq_getElem h]
  rfl

end Ev
end Go.Proofs.Ytidobgmklcbcpaa
