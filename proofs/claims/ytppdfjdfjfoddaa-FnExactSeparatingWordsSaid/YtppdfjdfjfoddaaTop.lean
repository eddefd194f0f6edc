/-
  From the evaluator to a run of the program.
-/
import Derived.Test.YtppdfjdfjfoddaaLib
import Derived.Test.YtppdfjdfjfoddaaGnd
import Derived.Laws.StructEq
import Derived.ChangeSlices
import Derived.RowKit3
namespace Go.Proofs.Ytppdfjdfjfoddaa
namespace Ev
open Go.RowKit
theorem eqs_ok : EqsOK Try.prog eqTypes := by
 intro t n h
 unfold eqTypes at h
 simp at h
theorem mixed_prog : Try.prog.follows .mixedOrders = true := by kernel_rfl
theorem env_ok : EnvOK env := ⟨eqs_ok, mixed_prog⟩
theorem prims_ok : ∀ f g, env.prim f = some g → PrimOK gnd env.P f g := by
 have key : ∀ (l : List (Nat × (List A → H → Option (A × H)))), (∀ p ∈ l, PrimOK gnd Try.prog p.1 p.2) → ∀ f g, l.lookup f = some g → PrimOK gnd Try.prog f g := by
  intro l
  induction l with
  | nil => intro _ f g h; simp at h
  | cons p l ih =>
   intro hp f g h
   obtain ⟨k, q⟩ := p
   rw [List.lookup_cons] at h
   split at h
   ·rename_i he
    have he' : f = k := by simpa using he
    cases h
    subst he'
    exact hp (f, g) (by simp)
   ·exact ih (fun p hm => hp p (by simp [hm])) f g h
 refine key prims ?_
 intro p hp
 unfold prims at hp
 simp at hp
def there (w : World) : Nat → Prop := fun b => b < w.heap.size
theorem run_law {L n : Nat} {f : FuncId} {args : List A} {vs : List Value} {w : World} (he : evCall env L n f args [] = some (.d (.bool true), [])) (hg : Ground gnd w (there w)) (ha : ARv [] (fun _ => none) w (there w) args vs) :
  Calls Try.prog f vs.toArray w fun e w' => e = .returned (.bool true) ∧ Below w.heap.size w w' := by
 obtain ⟨_, hc⟩ := sound (L := L) env_ok prims_ok n f args [] _ _ he
 refine (hc (fun _ => none) w (there w) vs (rel_empty (fun _ h => h) hg) ha).mono fun e w' hh => ?_
 obtain ⟨v, ρ', I', he', s, hv⟩ := hh
 have hv : v = .bool true := by simpa only [AR, DR] using hv
 subst hv
 have g := grew_empty s
 exact ⟨he', g.os, g.tape, g.output, g.size, g.same⟩
def roundsMax : Nat := 2 ^ 70
theorem rounds_le : 2 ^ 60 ≤ roundsMax := by unfold roundsMax; omega
structure IsBytes (w : World) (v : Value) (z : List UInt8) : Prop where
 rel : DR w (there w) (.ivs z.length (bytesL z)) v
end Ev
end Go.Proofs.Ytppdfjdfjfoddaa
