/-
  The law FnCoverPrefix of the given program holds as it is stated: for every input it returns true, and the input reads as it did. No conditions.
-/
import Derived.Test.YtppdfjdfjfoddaaRowCoverPrefix
import Derived.Test.YtppdfjdfjfoddaaCloCoverPrefix
namespace Go.Proofs.Ytppdfjdfjfoddaa.fnCoverPrefix
theorem over : Rows.fnCoverPrefixRow.holds Try.pinned (OpenSpec.ofChange Rows.fnCoverPrefixSpec) :=
 OpenClaim.holds_of_wide 7 Try.f7 rfl rfl rfl rfl rfl rfl rfl ⟨rfl,rfl,rfl,rfl,rfl⟩ rfl rfl rfl rfl rfl (by kernel_rfl) Try.func7 closed
  (of_decide_eq_true (by kernel_rfl)) (by unfold Func.isWrapper; first | (rw [if_pos (by decide +kernel)]; kernel_rfl) | (rw [if_neg (by decide +kernel)]; exact ⟨rfl,rfl⟩))
  (fun os started H enc _ => lifted os started H enc)
theorem proved : Rows.FnCoverPrefixSaid := over
#print axioms proved
end Go.Proofs.Ytppdfjdfjfoddaa.fnCoverPrefix
