/-
  From the evaluator to a run of the program.
-/
import Derived.Test.YtidobgmklcbcpaaEnv
import Derived.RowKit3
namespace Go.Proofs.Ytidobgmklcbcpaa
namespace Ev
open Go.RowKit

theorem eqs_none {P : Program} : EqsOK P [] := fun t n h => by simp at h

theorem mixed_prog : Try.prog.follows .mixedOrders = true := by kernel_rfl

theorem env_ok : EnvOK env := ⟨eqs_none, mixed_prog⟩

theorem prims_ok : ∀ f g, env.prim f = some g → PrimOK env.P f g := fun f g h => by
  have : env.prim f = none := rfl
  rw [this] at h
  cases h

/-- The blocks that were there. -/
def there (w : World) : Nat → Prop := fun b => b < w.heap.size

theorem run_law {L n : Nat} {f : FuncId} {args : List A} {vs : List Value} {w : World} (he : evCall env L n f args [] = some (.d (.bool true), [])) (ha : ARv [] (fun _ => none) w (there w) args vs) :
    Calls Try.prog f vs.toArray w fun e w' => e = .returned (.bool true) ∧ Below w.heap.size w w' := by
  obtain ⟨_, hc⟩ := sound (L := L) env_ok prims_ok n f args [] _ _ he
  refine (hc (fun _ => none) w (there w) vs (rel_empty fun _ h => h) ha).mono fun e w' hh => ?_
  obtain ⟨v, ρ', I', he', s, hv⟩ := hh
  have hv : v = .bool true := by simpa only [AR, DR] using hv
  subst hv
  have g := grew_empty s
  exact ⟨he', g.os, g.tape, g.output, g.size, g.same⟩

/-- More rounds than any loop here goes. -/
def roundsMax : Nat := 2 ^ 70
theorem rounds_le : 2 ^ 60 ≤ roundsMax := by unfold roundsMax; omega

end Ev
end Go.Proofs.Ytidobgmklcbcpaa
