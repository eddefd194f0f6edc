/-
  The search of the product of two automata, as the reference does it: what it finds.
-/
import Derived.Test.YtppdfjdfjfoddaaGreatNetR
import Derived.Test.YtppdfjdfjfoddaaGreatAutF
import Derived.Test.YtppdfjdfjfoddaaGreatAutH
set_option linter.unusedSimpArgs false
set_option linter.unusedVariables false
set_option maxRecDepth 8000
set_option maxHeartbeats 4000000
namespace Go.Proofs.YtppdfjdfjfoddaaGreat
namespace Ev
def AOK (a:Aut):Prop:=gC a.al a.nx a.ac = true
theorem aTl {al:Int} {rs:List (List Int)} {ac:List Bool} (h:gC al rs ac = true) {q i:Nat} (hq:q < rs.length) (hi:i < (aC al).length):0 ≤ (rs.getD q []).getD i 0 ∧ (rs.getD q []).getD i 0 < rs.length:=by
 have hw:=II h
 unfold gC at h
 simp only [Bool.and_eq_true] at h
 have hb:=KM h.2 hq
 unfold kF x2 at hb
 simp only [Bool.or_eq_false_iff,Bool.not_eq_false',decide_eq_true_eq] at hb
 have hn:(seek (badQ rs.length (rs.getD q [])) (rs.getD q []).length 0).isNone = true:=by
  cases hs:seek (badQ rs.length (rs.getD q [])) (rs.getD q []).length 0 with
  | none => rfl
  | some r => rw [hs] at hb; cases hb.2
 exact AV.1 (KM hn (by omega))
theorem YI {a:Aut} (h:AOK a) {q l:Int} (h0:0 ≤ q) (h1:q < a.nx.length) (h2:0 ≤ l) (h3:l < 6):0 ≤ goI a.al a.nx q l ∧ goI a.al a.nx q l < a.nx.length:=by
 unfold goI
 split
 ·rename_i hb
  exact aTl h (by omega) (AL h2 h3 hb).1
 ·exact ⟨h0,h1⟩
theorem EW (al:Int):(aC al).Pairwise (· < ·):=by
 unfold aC
 exact List.Pairwise.filter _ (by decide)
end Ev
end Go.Proofs.YtppdfjdfjfoddaaGreat
