/-
  The law FnExactFirstFailing of the given program holds as it is stated: for every input it returns true, and the input reads as it did. No conditions.
-/
import Derived.Test.YtejmccgfigiadaaGreatRowExactFirstFailing
import Derived.Test.YtejmccgfigiadaaGreatCloExactFirstFailing
namespace Go.Proofs.YtejmccgfigiadaaGreat.fnExactFirstFailing
theorem over:Rows.fnExactFirstFailingRow.holds Tryz.pinned (OpenSpec.ofChange Rows.fnExactFirstFailingSpec) :=
 OpenClaim.holds_of_wide 4 Tryz.f4 rfl rfl rfl rfl rfl rfl rfl ⟨rfl,rfl,rfl,rfl,rfl⟩ rfl rfl rfl rfl rfl (by kernel_rfl) Tryz.func4 closed
  (of_decide_eq_true (by kernel_rfl)) (by unfold Func.isWrapper; first | (rw [if_pos (by decide +kernel)]; kernel_rfl) | (rw [if_neg (by decide +kernel)]; exact ⟨rfl,rfl⟩))
  (fun os started H enc _ => lifted os started H enc)
theorem proved:Rows.FnExactFirstFailingSaid:=over
#print axioms proved
end Go.Proofs.YtejmccgfigiadaaGreat.fnExactFirstFailing
