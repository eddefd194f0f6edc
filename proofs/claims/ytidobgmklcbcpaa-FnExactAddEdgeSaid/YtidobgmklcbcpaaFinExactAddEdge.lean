/-
  The law FnExactAddEdge of the given program holds as it is stated: for every input it returns true, and the input reads as it did. No conditions.
-/
import Derived.Test.YtidobgmklcbcpaaRowExactAddEdge
import Derived.Test.YtidobgmklcbcpaaCloExactAddEdge
namespace Go.Proofs.Ytidobgmklcbcpaa.fnExactAddEdge
theorem over : Rows.fnExactAddEdgeRow.holds Try.pinned (OpenSpec.ofChange Rows.fnExactAddEdgeSpec) :=
  OpenClaim.holds_of_wide 9 Try.f9 rfl rfl rfl rfl rfl rfl rfl ⟨rfl, rfl, rfl, rfl, rfl⟩ rfl rfl rfl rfl rfl (by kernel_rfl) Try.func9 closed
    (of_decide_eq_true (by kernel_rfl)) (by unfold Func.isWrapper; first | (rw [if_pos (by decide +kernel)]; kernel_rfl) | (rw [if_neg (by decide +kernel)]; exact ⟨rfl, rfl⟩))
    (fun os started H enc _ => lifted os started H enc)

theorem proved : Rows.FnExactAddEdgeSaid := over
#print axioms proved
end Go.Proofs.Ytidobgmklcbcpaa.fnExactAddEdge
