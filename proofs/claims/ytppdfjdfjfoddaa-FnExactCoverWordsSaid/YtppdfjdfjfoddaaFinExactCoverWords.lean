/-
  The law FnExactCoverWords of the given program holds as it is stated: for every input it returns true, and the input reads as it did. No conditions.
-/
import Derived.Test.YtppdfjdfjfoddaaRowExactCoverWords
import Derived.Test.YtppdfjdfjfoddaaCloExactCoverWords
namespace Go.Proofs.Ytppdfjdfjfoddaa.fnExactCoverWords
theorem over : Rows.fnExactCoverWordsRow.holds Try.pinned (OpenSpec.ofChange Rows.fnExactCoverWordsSpec) :=
 OpenClaim.holds_of_wide 6 Try.f6 rfl rfl rfl rfl rfl rfl rfl ⟨rfl,rfl,rfl,rfl,rfl⟩ rfl rfl rfl rfl rfl (by kernel_rfl) Try.func6 closed
  (of_decide_eq_true (by kernel_rfl)) (by unfold Func.isWrapper; first | (rw [if_pos (by decide +kernel)]; kernel_rfl) | (rw [if_neg (by decide +kernel)]; exact ⟨rfl,rfl⟩))
  (fun os started H enc _ => lifted os started H enc)
theorem proved : Rows.FnExactCoverWordsSaid := over
#print axioms proved
end Go.Proofs.Ytppdfjdfjfoddaa.fnExactCoverWords
