/-
  Automata with exchanged x8: the reference's.
-/
import Derived.Test.YtppdfjdfjfoddaaDistG
set_option linter.unusedSimpArgs false
set_option linter.unusedVariables false
set_option maxRecDepth 8000
set_option maxHeartbeats 4000000
namespace Go.Proofs.Ytppdfjdfjfoddaa
namespace Ev
theorem x18v {p : Nat → Bool} {n : Nat} (h : (seek p n 0).isNone = true) {i : Nat} (hi : i < n) : p i = false :=
 xow.1 (by simpa using h) i (by omega) (by omega)
theorem xrr {al : Int} {rs : List (List Int)} {ac : List Bool} (h : x8j al rs ac = true) : xbc (x8 al).length rs := by
 unfold x8j at h
 simp only [Bool.and_eq_true] at h
 intro r hr
 obtain ⟨i,hi,rfl⟩ := List.getElem_of_mem hr
 have hb := x18v h.2 hi
 unfold x9s at hb
 rw [List.getD_eq_getElem?_getD,List.getElem?_eq_getElem hi] at hb
 apply Classical.byContradiction
 intro hc
 rw [x1jy (by simp only [Option.getD_some]; omega)] at hb
 cases hb
theorem xkg {al : Int} {rs : List (List Int)} {ac : List Bool} (h : x8j al rs ac = true) : 1 ≤ rs.length ∧ rs.length ≤ 12 ∧ ac.length = rs.length ∧ xb4 al = true := by
 unfold x8j at h
 simp only [Bool.and_eq_true,decide_eq_true_eq] at h
 obtain ⟨⟨⟨⟨h1,h2⟩,h3⟩,h4⟩,_⟩ := h
 exact ⟨by omega,by omega,by omega,h1⟩
end Ev
end Go.Proofs.Ytppdfjdfjfoddaa
