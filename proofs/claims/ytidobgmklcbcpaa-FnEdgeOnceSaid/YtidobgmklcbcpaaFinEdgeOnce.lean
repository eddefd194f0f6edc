/-
  The law FnEdgeOnce of the given program holds as it is stated: for every input it returns true, and the input reads as it did. No conditions.
-/
import Derived.Test.YtidobgmklcbcpaaRowEdgeOnce
import Derived.Test.YtidobgmklcbcpaaCloEdgeOnce
namespace Go.Proofs.Ytidobgmklcbcpaa.fnEdgeOnce
theorem over : Rows.fnEdgeOnceRow.holds Try.pinned (OpenSpec.ofChange Rows.fnEdgeOnceSpec) :=
  OpenClaim.holds_of_wide 10 Try.f10 rfl rfl rfl rfl rfl rfl rfl ⟨rfl, rfl, rfl, rfl, rfl⟩ rfl rfl rfl rfl rfl (by kernel_rfl) Try.func10 closed
    (of_decide_eq_true (by kernel_rfl)) (by unfold Func.isWrapper; first | (rw [if_pos (by decide +kernel)]; kernel_rfl) | (rw [if_neg (by decide +kernel)]; exact ⟨rfl, rfl⟩))
    (fun os started H enc _ => lifted os started H enc)

theorem proved : Rows.FnEdgeOnceSaid := over
#print axioms proved
end Go.Proofs.Ytidobgmklcbcpaa.fnEdgeOnce
