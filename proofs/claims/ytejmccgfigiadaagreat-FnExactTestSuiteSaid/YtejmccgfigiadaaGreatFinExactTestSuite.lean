/-
  The law FnExactTestSuite of the given program holds as it is stated: for every input it returns true, and the input reads as it did. No conditions.
-/
import Derived.Test.YtejmccgfigiadaaGreatRowExactTestSuite
import Derived.Test.YtejmccgfigiadaaGreatCloExactTestSuite
namespace Go.Proofs.YtejmccgfigiadaaGreat.fnExactTestSuite
theorem over:Rows.fnExactTestSuiteRow.holds Tryz.pinned (OpenSpec.ofChange Rows.fnExactTestSuiteSpec) :=
 OpenClaim.holds_of_wide 3 Tryz.f3 rfl rfl rfl rfl rfl rfl rfl ⟨rfl,rfl,rfl,rfl,rfl⟩ rfl rfl rfl rfl rfl (by kernel_rfl) Tryz.func3 closed
  (of_decide_eq_true (by kernel_rfl)) (by unfold Func.isWrapper; first | (rw [if_pos (by decide +kernel)]; kernel_rfl) | (rw [if_neg (by decide +kernel)]; exact ⟨rfl,rfl⟩))
  (fun os started H enc _ => lifted os started H enc)
theorem proved:Rows.FnExactTestSuiteSaid:=over
#print axioms proved
end Go.Proofs.YtejmccgfigiadaaGreat.fnExactTestSuite
