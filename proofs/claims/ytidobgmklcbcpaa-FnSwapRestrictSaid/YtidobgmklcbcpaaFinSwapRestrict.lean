/-
  The law FnSwapRestrict of the given program holds as it is stated: for every input it returns true, and the input reads as it did. No conditions.
-/
import Derived.Test.YtidobgmklcbcpaaRowSwapRestrict
namespace Go.Proofs.Ytidobgmklcbcpaa.fnSwapRestrict
theorem over : Rows.fnSwapRestrictRow.holds Try.pinned (OpenSpec.ofChange Rows.fnSwapRestrictSpec) :=
  OpenClaim.holds_of_wide 6 Try.f6 rfl rfl rfl rfl rfl rfl rfl ⟨rfl, rfl, rfl, rfl, rfl⟩ rfl rfl rfl rfl rfl (by kernel_rfl) Try.func6 (by kernel_rfl)
    (of_decide_eq_true (by kernel_rfl)) (by unfold Func.isWrapper; first | (rw [if_pos (by decide +kernel)]; kernel_rfl) | (rw [if_neg (by decide +kernel)]; exact ⟨rfl, rfl⟩))
    (fun os started H enc _ => lifted os started H enc)

theorem proved : Rows.FnSwapRestrictSaid := over
#print axioms proved
end Go.Proofs.Ytidobgmklcbcpaa.fnSwapRestrict
