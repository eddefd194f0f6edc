/-
  The law FnSeparatingFew of the given program holds as it is stated: for every input it returns true, and the input reads as it did. No conditions.
-/
import Derived.Test.YtppdfjdfjfoddaaRowSeparatingFew
import Derived.Test.YtppdfjdfjfoddaaCloSeparatingFew
namespace Go.Proofs.Ytppdfjdfjfoddaa.fnSeparatingFew
theorem over : Rows.fnSeparatingFewRow.holds Try.pinned (OpenSpec.ofChange Rows.fnSeparatingFewSpec) :=
 OpenClaim.holds_of_wide 5 Try.f5 rfl rfl rfl rfl rfl rfl rfl ⟨rfl,rfl,rfl,rfl,rfl⟩ rfl rfl rfl rfl rfl (by kernel_rfl) Try.func5 closed
  (of_decide_eq_true (by kernel_rfl)) (by unfold Func.isWrapper; first | (rw [if_pos (by decide +kernel)]; kernel_rfl) | (rw [if_neg (by decide +kernel)]; exact ⟨rfl,rfl⟩))
  (fun os started H enc _ => lifted os started H enc)
theorem proved : Rows.FnSeparatingFewSaid := over
#print axioms proved
end Go.Proofs.Ytppdfjdfjfoddaa.fnSeparatingFew
