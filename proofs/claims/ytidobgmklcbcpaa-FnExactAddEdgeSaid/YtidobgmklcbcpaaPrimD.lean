/-
  slices.Delete of edges, as the evaluator answers it.
-/
import Derived.Test.YtidobgmklcbcpaaPrimA
import Derived.Deep.LoopGhost
set_option linter.unusedSimpArgs false
set_option linter.unusedVariables false
set_option maxRecDepth 1000000
set_option maxHeartbeats 4000000
namespace Go.Proofs.Ytidobgmklcbcpaa
namespace Ev
open Go.RowKit Go.Lib

/-- Cells written over others. -/
def over (C : Array Value) : Nat → List Value → Array Value
  | _, [] => C
  | o, v :: vs => over (C.setIfInBounds o v) (o + 1) vs

theorem over_size : ∀ (vs : List Value) (C : Array Value) (o : Nat), (over C o vs).size = C.size
  | [], _, _ => rfl
  | v :: vs, C, o => by rw [over, over_size vs]; simp

theorem over_get : ∀ (vs : List Value) (C : Array Value) (o k : Nat), o + vs.length ≤ C.size → (over C o vs)[k]? = if o ≤ k ∧ k < o + vs.length then vs[k - o]? else C[k]?
  | [], C, o, k, _ => by simp only [over, List.length_nil]; rw [if_neg (by omega)]
  | v :: vs, C, o, k, h => by
    simp only [List.length_cons] at h ⊢
    rw [over, over_get vs _ (o + 1) k (by simp; omega)]
    by_cases h1 : o + 1 ≤ k ∧ k < o + 1 + vs.length
    · rw [if_pos h1, if_pos (by omega)]
      obtain ⟨m, hm⟩ : ∃ m, k - o = m + 1 := ⟨k - o - 1, by omega⟩
      rw [hm, List.getElem?_cons_succ]
      congr 1; omega
    · rw [if_neg h1]
      by_cases h2 : k = o
      · subst h2
        rw [if_pos (by omega), Nat.sub_self]
        simp [Array.getElem?_setIfInBounds]; omega
      · rw [if_neg (by omega)]
        rw [Array.getElem?_setIfInBounds, if_neg (Ne.symm h2)]

theorem setCells_over {b : Nat} {E : TypeId} {fz : Nat × Nat} : ∀ (vs : List Value) (o : Nat) (w : World) (C : Array Value), w.heap[b]? = some (.cells C E fz) → o + vs.length ≤ C.size → w.setCells b o vs = putBlk w b (.cells (over C o vs) E fz)
  | [], o, w, C, hb, _ => by
    simp only [World.setCells, over, putBlk]
    have : w.heap.setIfInBounds b (Obj.cells C E fz) = w.heap := by
      apply Array.ext_getElem?
      intro j
      rw [Array.getElem?_setIfInBounds]
      split
      · rename_i e; subst e
        split
        · exact hb.symm
        · rename_i h; rw [Array.getElem?_eq_none (by omega)]
      · rfl
    rw [this]
  | v :: vs, o, w, C, hb, hl => by
    simp only [List.length_cons] at hl
    have hlt : b < w.heap.size := (Array.getElem?_eq_some_iff.1 hb).1
    rw [World.setCells, setCell_put hb v, setCells_over vs (o + 1) _ _ (putBlk_get hlt) (by simp; omega), putBlk_put, over]

end Ev
end Go.Proofs.Ytidobgmklcbcpaa
