/-
  The law FnTestSuite of the given program holds as it is stated: for every input it returns true, and the input reads as it did. No conditions.
-/
import Derived.Test.YthlkcebdfbjdoaaGreatRowTestSuite
import Derived.Test.YthlkcebdfbjdoaaGreatCloTestSuite
namespace Go.Proofs.YthlkcebdfbjdoaaGreat.fnTestSuite
theorem over:Rows.fnTestSuiteRow.holds Tryz.pinned (OpenSpec.ofChange Rows.fnTestSuiteSpec) :=
 OpenClaim.holds_of_wide 4 Tryz.f4 rfl rfl rfl rfl rfl rfl rfl ⟨rfl,rfl,rfl,rfl,rfl⟩ rfl rfl rfl rfl rfl (by kernel_rfl) Tryz.func4 closed
  (of_decide_eq_true (by kernel_rfl)) (by unfold Func.isWrapper; first | (rw [if_pos (by decide +kernel)]; kernel_rfl) | (rw [if_neg (by decide +kernel)]; exact ⟨rfl,rfl⟩))
  (fun os started H enc _ => lifted os started H enc)
theorem proved:Rows.FnTestSuiteSaid:=over
#print axioms proved
end Go.Proofs.YthlkcebdfbjdoaaGreat.fnTestSuite
