/-
  The law FnSwapAutomaton of the given program holds as it is stated: for every input it returns true, and the input reads as it did. No conditions.
-/
import Derived.Test.YtppdfjdfjfoddaaRowSwapAutomaton
import Derived.Test.YtppdfjdfjfoddaaCloSwapAutomaton
namespace Go.Proofs.Ytppdfjdfjfoddaa.fnSwapAutomaton
theorem over : Rows.fnSwapAutomatonRow.holds Try.pinned (OpenSpec.ofChange Rows.fnSwapAutomatonSpec) :=
 OpenClaim.holds_of_wide 3 Try.f3 rfl rfl rfl rfl rfl rfl rfl ⟨rfl, rfl, rfl, rfl, rfl⟩ rfl rfl rfl rfl rfl (by kernel_rfl) Try.func3 closed
  (of_decide_eq_true (by kernel_rfl)) (by unfold Func.isWrapper; first | (rw [if_pos (by decide +kernel)]; kernel_rfl) | (rw [if_neg (by decide +kernel)]; exact ⟨rfl, rfl⟩))
  (fun os started H enc _ => lifted os started H enc)
theorem proved : Rows.FnSwapAutomatonSaid := over
#print axioms proved
end Go.Proofs.Ytppdfjdfjfoddaa.fnSwapAutomaton
