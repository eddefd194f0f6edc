/-
  The law FnExactSwapAutomaton of the given program holds as it is stated: for every input it returns true, and the input reads as it did. No conditions.
-/
import Derived.Test.YtidobgmklcbcpaaRowExactSwapAutomaton
import Derived.Test.YtidobgmklcbcpaaCloExactSwapAutomaton
namespace Go.Proofs.Ytidobgmklcbcpaa.fnExactSwapAutomaton
theorem over : Rows.fnExactSwapAutomatonRow.holds Try.pinned (OpenSpec.ofChange Rows.fnExactSwapAutomatonSpec) :=
  OpenClaim.holds_of_wide 8 Try.f8 rfl rfl rfl rfl rfl rfl rfl ⟨rfl, rfl, rfl, rfl, rfl⟩ rfl rfl rfl rfl rfl (by kernel_rfl) Try.func8 closed
    (of_decide_eq_true (by kernel_rfl)) (by unfold Func.isWrapper; first | (rw [if_pos (by decide +kernel)]; kernel_rfl) | (rw [if_neg (by decide +kernel)]; exact ⟨rfl, rfl⟩))
    (fun os started H enc _ => lifted os started H enc)

theorem proved : Rows.FnExactSwapAutomatonSaid := over
#print axioms proved
end Go.Proofs.Ytidobgmklcbcpaa.fnExactSwapAutomaton
