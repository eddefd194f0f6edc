/-
  The law FnFailingOther of the given program holds as it is stated: for every input it returns true, and the input reads as it did. No conditions.
-/
import Derived.Test.YtppffbehejpglaaGreatRowFailingOther
import Derived.Test.YtppffbehejpglaaGreatCloFailingOther
namespace Go.Proofs.YtppffbehejpglaaGreat.fnFailingOther
theorem over:Rows.fnFailingOtherRow.holds Tryz.pinned (OpenSpec.ofChange Rows.fnFailingOtherSpec) :=
 OpenClaim.holds_of_wide 3 Tryz.f3 rfl rfl rfl rfl rfl rfl rfl ⟨rfl,rfl,rfl,rfl,rfl⟩ rfl rfl rfl rfl rfl (by kernel_rfl) Tryz.func3 closed
  (of_decide_eq_true (by kernel_rfl)) (by unfold Func.isWrapper; first | (rw [if_pos (by decide +kernel)]; kernel_rfl) | (rw [if_neg (by decide +kernel)]; exact ⟨rfl,rfl⟩))
  (fun os started H enc _ => lifted os started H enc)
theorem proved:Rows.FnFailingOtherSaid:=over
#print axioms proved
end Go.Proofs.YtppffbehejpglaaGreat.fnFailingOther
