/-
  The law FnSuiteGrows of the given program holds as it is stated: for every input it returns true, and the input reads as it did. No conditions.
-/
import Derived.Test.YtejmccgfigiadaaGreatRowSuiteGrows
import Derived.Test.YtejmccgfigiadaaGreatCloSuiteGrows
namespace Go.Proofs.YtejmccgfigiadaaGreat.fnSuiteGrows
theorem over:Rows.fnSuiteGrowsRow.holds Tryz.pinned (OpenSpec.ofChange Rows.fnSuiteGrowsSpec) :=
 OpenClaim.holds_of_wide 6 Tryz.f6 rfl rfl rfl rfl rfl rfl rfl ⟨rfl,rfl,rfl,rfl,rfl⟩ rfl rfl rfl rfl rfl (by kernel_rfl) Tryz.func6 closed
  (of_decide_eq_true (by kernel_rfl)) (by unfold Func.isWrapper; first | (rw [if_pos (by decide +kernel)]; kernel_rfl) | (rw [if_neg (by decide +kernel)]; exact ⟨rfl,rfl⟩))
  (fun os started H enc _ => lifted os started H enc)
theorem proved:Rows.FnSuiteGrowsSaid:=over
#print axioms proved
end Go.Proofs.YtejmccgfigiadaaGreat.fnSuiteGrows
