/-
  The law FnFirstFailing of the given program holds as it is stated: for every input it returns true, and the input reads as it did. No conditions.
-/
import Derived.Test.YthlkcebdfbjdoaaGreatRowFirstFailing
import Derived.Test.YthlkcebdfbjdoaaGreatCloFirstFailing
namespace Go.Proofs.YthlkcebdfbjdoaaGreat.fnFirstFailing
theorem over:Rows.fnFirstFailingRow.holds Tryz.pinned (OpenSpec.ofChange Rows.fnFirstFailingSpec) :=
 OpenClaim.holds_of_wide 6 Tryz.f6 rfl rfl rfl rfl rfl rfl rfl ⟨rfl,rfl,rfl,rfl,rfl⟩ rfl rfl rfl rfl rfl (by kernel_rfl) Tryz.func6 closed
  (of_decide_eq_true (by kernel_rfl)) (by unfold Func.isWrapper; first | (rw [if_pos (by decide +kernel)]; kernel_rfl) | (rw [if_neg (by decide +kernel)]; exact ⟨rfl,rfl⟩))
  (fun os started H enc _ => lifted os started H enc)
theorem proved:Rows.FnFirstFailingSaid:=over
#print axioms proved
end Go.Proofs.YthlkcebdfbjdoaaGreat.fnFirstFailing
