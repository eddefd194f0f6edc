/-
  Edges, systems: how they lie; comparing edges; validity.
-/
import Derived.Test.YtidobgmklcbcpaaSwapA
set_option linter.unusedSimpArgs false
set_option linter.unusedVariables false
set_option maxRecDepth 8000
set_option pp.maxSteps 6000
set_option maxHeartbeats 4000000
namespace Go.Proofs.Ytidobgmklcbcpaa
namespace Ev

structure Edge where
  fr : Int
  lt : Int
  to : Int
  deriving DecidableEq, Inhabited

/-! ### comparing -/

theorem drop_go {α : Type} {l : List α} {i : Nat} {d : α} (h : i < l.length) : l.drop i = l.getD i d :: l.drop (i + 1) := by
  rw [List.drop_eq_getElem_cons h, List.getD_eq_getElem?_getD, List.getElem?_eq_getElem h]
  rfl

/-! ### searching -/

/-- The first number of a run at which something holds. -/
def seek (p : Nat → Bool) : Nat → Nat → Option Nat
  | 0, _ => none
  | j + 1, i => if p i = true then some i else seek p j (i + 1)

theorem seek_none {p : Nat → Bool} : ∀ {j i : Nat}, seek p j i = none ↔ ∀ k, i ≤ k → k < i + j → p k = false
  | 0, i => by simp only [seek, true_iff]; intro k h1 h2; omega
  | j + 1, i => by
    simp only [seek]
    by_cases hp : p i = true
    · rw [if_pos hp]
      simp only [false_iff, reduceCtorEq]
      intro h
      have := h i (Nat.le_refl _) (by omega)
      rw [hp] at this; cases this
    · rw [if_neg hp, seek_none]
      constructor
      · intro h k h1 h2
        by_cases e : k = i
        · subst e; simpa using hp
        · exact h k (by omega) (by omega)
      · intro h k h1 h2; exact h k (by omega) (by omega)

theorem seek_pos {p : Nat → Bool} {j i : Nat} (h : p i = true) : seek p (j + 1) i = some i := by simp [seek, h]
theorem seek_neg {p : Nat → Bool} {j i : Nat} (h : p i = false) : seek p (j + 1) i = seek p j (i + 1) := by simp [seek, h]

/-! ### valid systems -/

structure Sys where
  al : Int
  st : Int
  es : List Edge
  deriving DecidableEq, Inhabited

end Ev
end Go.Proofs.Ytidobgmklcbcpaa
