/-
  The law FnExactSeparatingWords of the given program holds as it is stated: for every input it returns true, and the input reads as it did. No conditions.
-/
import Derived.Test.YtppdfjdfjfoddaaRowExactSeparatingWords
import Derived.Test.YtppdfjdfjfoddaaCloExactSeparatingWords
namespace Go.Proofs.Ytppdfjdfjfoddaa.fnExactSeparatingWords
theorem over : Rows.fnExactSeparatingWordsRow.holds Try.pinned (OpenSpec.ofChange Rows.fnExactSeparatingWordsSpec) :=
 OpenClaim.holds_of_wide 4 Try.f4 rfl rfl rfl rfl rfl rfl rfl ⟨rfl, rfl, rfl, rfl, rfl⟩ rfl rfl rfl rfl rfl (by kernel_rfl) Try.func4 closed
  (of_decide_eq_true (by kernel_rfl)) (by unfold Func.isWrapper; first | (rw [if_pos (by decide +kernel)]; kernel_rfl) | (rw [if_neg (by decide +kernel)]; exact ⟨rfl, rfl⟩))
  (fun os started H enc _ => lifted os started H enc)
theorem proved : Rows.FnExactSeparatingWordsSaid := over
#print axioms proved
end Go.Proofs.Ytppdfjdfjfoddaa.fnExactSeparatingWords
