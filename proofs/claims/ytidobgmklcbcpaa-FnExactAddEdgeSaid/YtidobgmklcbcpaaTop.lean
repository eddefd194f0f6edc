/-
  From the evaluator to a run of the program.
-/
import Derived.Test.YtidobgmklcbcpaaLib
import Derived.Test.YtidobgmklcbcpaaPrimA
import Derived.Test.YtidobgmklcbcpaaPrimI
import Derived.Laws.StructEq
import Derived.ChangeSlices
import Derived.RowKit3
namespace Go.Proofs.Ytidobgmklcbcpaa
namespace Ev
open Go.RowKit

/-- Edges are compared number by number. -/
theorem eq_Edge (xs ys : List Int) (ha : xs.length = 3) (hb : ys.length = 3) (w : World) :
    (Op.equal 49 (.agg (xs.map (Value.int .i64)).toArray) (.agg (ys.map (Value.int .i64)).toArray)).run Try.prog w = .ok (xs == ys) w ∧
    ∀ op x y, (eqGuard op 49 x y (.agg (xs.map (Value.int .i64)).toArray) (.agg (ys.map (Value.int .i64)).toArray)).run Try.prog w = .ok () w := by
  refine ⟨?_, fun op x y => run_eqGuard_agg w op _ x y _ _ (by kernel_rfl)⟩
  obtain ⟨a1, a2, a3, rfl⟩ : ∃ a1 a2 a3, xs = [a1, a2, a3] := by
    match xs, ha with
    | [a1, a2, a3], _ => exact ⟨a1, a2, a3, rfl⟩
  obtain ⟨b1, b2, b3, rfl⟩ : ∃ b1 b2 b3, ys = [b1, b2, b3] := by
    match ys, hb with
    | [b1, b2, b3], _ => exact ⟨b1, b2, b3, rfl⟩
  have u3 := Try.underlying3
  have a3' := Try.isAgg3
  have z3 := Try.sizeOf3
  have hS : Try.prog.underlying 49 = some (.struct (Try.prog.fieldsOf 49)) := by kernel_rfl
  have hp : Try.prog.stoodInHeld 49 = false := by kernel_rfl
  unfold Op.equal
  simp only [Op.maxDepth, show (10000 : Nat) = 9999 + 1 from rfl, List.map_cons, List.map_nil]
  rw [run_equalIn_agg w 9999 49 _ _ hS hp]
  simp only [Program.fieldsOf, Try.underlying49]
  go_simp
  by_cases h1 : a1 = b1 <;> by_cases h2 : a2 = b2 <;> by_cases h3 : a3 = b3 <;> simp [h1, h2, h3]

theorem eqs_ok : EqsOK Try.prog eqTypes := by
  intro t n h
  have hh : t = 49 ∧ n = 3 := by
    unfold eqTypes at h
    simpa using h
  obtain ⟨rfl, rfl⟩ := hh
  exact fun xs ys ha hb w => eq_Edge xs ys ha hb w

theorem mixed_prog : Try.prog.follows .mixedOrders = true := by kernel_rfl

theorem env_ok : EnvOK env := ⟨eqs_ok, mixed_prog⟩

theorem prims_ok : ∀ f g, env.prim f = some g → PrimOK env.P f g := by
  have key : ∀ (l : List (Nat × (List A → H → Option (A × H)))), (∀ p ∈ l, PrimOK Try.prog p.1 p.2) → ∀ f g, l.lookup f = some g → PrimOK Try.prog f g := by
    intro l
    induction l with
    | nil => intro _ f g h; simp at h
    | cons p l ih =>
      intro hp f g h
      obtain ⟨k, q⟩ := p
      rw [List.lookup_cons] at h
      split at h
      · rename_i he
        have he' : f = k := by simpa using he
        cases h
        subst he'
        exact hp (f, g) (by simp)
      · exact ih (fun p hm => hp p (by simp [hm])) f g h
  refine key prims ?_
  intro p hp
  unfold prims at hp
  simp only [List.mem_cons, List.not_mem_nil, or_false] at hp
  rcases hp with rfl | rfl
  · exact clone_Edge
  · exact insert_Edge

/-- The blocks that were there. -/
def there (w : World) : Nat → Prop := fun b => b < w.heap.size

theorem run_law {L n : Nat} {f : FuncId} {args : List A} {vs : List Value} {w : World} (he : evCall env L n f args [] = some (.d (.bool true), [])) (ha : ARv [] (fun _ => none) w (there w) args vs) :
    Calls Try.prog f vs.toArray w fun e w' => e = .returned (.bool true) ∧ Below w.heap.size w w' := by
  obtain ⟨_, hc⟩ := sound (L := L) env_ok prims_ok n f args [] _ _ he
  refine (hc (fun _ => none) w (there w) vs (rel_empty fun _ h => h) ha).mono fun e w' hh => ?_
  obtain ⟨v, ρ', I', he', s, hv⟩ := hh
  have hv : v = .bool true := by simpa only [AR, DR] using hv
  subst hv
  have g := grew_empty s
  exact ⟨he', g.os, g.tape, g.output, g.size, g.same⟩

/-- More rounds than any loop here goes. -/
def roundsMax : Nat := 2 ^ 70
theorem rounds_le : 2 ^ 60 ≤ roundsMax := by unfold roundsMax; omega

/-- A slice of bytes, as it lies in memory. -/
structure IsBytes (w : World) (v : Value) (z : List UInt8) : Prop where
  rel : DR w (there w) (.ivs z.length (bytesL z)) v

end Ev
end Go.Proofs.Ytidobgmklcbcpaa
