/-
  The law FnExactSwapSystem of the given program holds as it is stated: for every input it returns true, and the input reads as it did. No conditions.
-/
import Derived.Test.YtidobgmklcbcpaaRowExactSwapSystem
import Derived.Test.YtidobgmklcbcpaaCloExactSwapSystem
namespace Go.Proofs.Ytidobgmklcbcpaa.fnExactSwapSystem
theorem over : Rows.fnExactSwapSystemRow.holds Try.pinned (OpenSpec.ofChange Rows.fnExactSwapSystemSpec) :=
  OpenClaim.holds_of_wide 13 Try.f13 rfl rfl rfl rfl rfl rfl rfl ⟨rfl, rfl, rfl, rfl, rfl⟩ rfl rfl rfl rfl rfl (by kernel_rfl) Try.func13 closed
    (of_decide_eq_true (by kernel_rfl)) (by unfold Func.isWrapper; first | (rw [if_pos (by decide +kernel)]; kernel_rfl) | (rw [if_neg (by decide +kernel)]; exact ⟨rfl, rfl⟩))
    (fun os started H enc _ => lifted os started H enc)

theorem proved : Rows.FnExactSwapSystemSaid := over
#print axioms proved
end Go.Proofs.Ytidobgmklcbcpaa.fnExactSwapSystem
