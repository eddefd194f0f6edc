/-
  The law FnFailingLeast of the given program holds as it is stated: for every input it returns true, and the input reads as it did. No conditions.
-/
import Derived.Test.YthlkcebdfbjdoaaGreatRowFailingLeast
import Derived.Test.YthlkcebdfbjdoaaGreatCloFailingLeast
namespace Go.Proofs.YthlkcebdfbjdoaaGreat.fnFailingLeast
theorem over:Rows.fnFailingLeastRow.holds Tryz.pinned (OpenSpec.ofChange Rows.fnFailingLeastSpec) :=
 OpenClaim.holds_of_wide 5 Tryz.f5 rfl rfl rfl rfl rfl rfl rfl ⟨rfl,rfl,rfl,rfl,rfl⟩ rfl rfl rfl rfl rfl (by kernel_rfl) Tryz.func5 closed
  (of_decide_eq_true (by kernel_rfl)) (by unfold Func.isWrapper; first | (rw [if_pos (by decide +kernel)]; kernel_rfl) | (rw [if_neg (by decide +kernel)]; exact ⟨rfl,rfl⟩))
  (fun os started H enc _ => lifted os started H enc)
theorem proved:Rows.FnFailingLeastSaid:=over
#print axioms proved
end Go.Proofs.YthlkcebdfbjdoaaGreat.fnFailingLeast
