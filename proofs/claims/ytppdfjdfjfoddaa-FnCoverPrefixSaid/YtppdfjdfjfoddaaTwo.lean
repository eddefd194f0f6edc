/-
  The search of the product of two automata, as the reference does it: what it finds.
-/
import Derived.Test.YtppdfjdfjfoddaaNetR
import Derived.Test.YtppdfjdfjfoddaaAutF
import Derived.Test.YtppdfjdfjfoddaaAutH
set_option linter.unusedSimpArgs false
set_option linter.unusedVariables false
set_option maxRecDepth 8000
set_option maxHeartbeats 4000000
namespace Go.Proofs.Ytppdfjdfjfoddaa
namespace Ev
def AOK (a : Aut) : Prop := iK a.al a.nx a.ac = true
theorem aRY {al : Int} {rs : List (List Int)} {ac : List Bool} (h : iK al rs ac = true) {q i : Nat} (hq : q < rs.length) (hi : i < (aC al).length) : 0 ≤ (rs.getD q []).getD i 0 ∧ (rs.getD q []).getD i 0 < rs.length := by
 have hw := PR h
 unfold iK at h
 simp only [Bool.and_eq_true] at h
 have hb := I9 h.2 hq
 unfold jX xC at hb
 simp only [Bool.or_eq_false_iff,Bool.not_eq_false',decide_eq_true_eq] at hb
 have hn : (seek (badQ rs.length (rs.getD q [])) (rs.getD q []).length 0).isNone = true := by
  cases hs : seek (badQ rs.length (rs.getD q [])) (rs.getD q []).length 0 with
  | none => rfl
  | some r => rw [hs] at hb; cases hb.2
 exact zT.1 (I9 hn (by omega))
theorem WX {a : Aut} (h : AOK a) {q l : Int} (h0 : 0 ≤ q) (h1 : q < a.nx.length) (h2 : 0 ≤ l) (h3 : l < 6) : 0 ≤ goI a.al a.nx q l ∧ goI a.al a.nx q l < a.nx.length := by
 unfold goI
 split
 ·rename_i hb
  exact aRY h (by omega) (E7 h2 h3 hb).1
 ·exact ⟨h0,h1⟩
theorem EC (al : Int) : (aC al).Pairwise (· < ·) := by
 unfold aC
 exact List.Pairwise.filter _ (by decide)
end Ev
end Go.Proofs.Ytppdfjdfjfoddaa
