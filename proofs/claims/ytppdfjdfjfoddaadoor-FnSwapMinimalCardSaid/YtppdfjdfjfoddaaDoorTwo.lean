/-
  The search of the product of two automata, as the reference does it: what it finds.
-/
import Derived.Test.YtppdfjdfjfoddaaDoorNetR
import Derived.Test.YtppdfjdfjfoddaaDoorDistG
import Derived.Test.YtppdfjdfjfoddaaDoorAutH
set_option linter.unusedSimpArgs false
set_option linter.unusedVariables false
set_option maxRecDepth 8000
set_option maxHeartbeats 4000000
namespace Go.Proofs.YtppdfjdfjfoddaaDoor
namespace Ev
def AOK (a:Aut):Prop:=jB a.al a.nx a.ac = true
theorem aRc {al:Int} {rs:List (List Int)} {ac:List Bool} (h:jB al rs ac = true) {q i:Nat} (hq:q < rs.length) (hi:i < (aE al).length):0 ≤ (rs.getD q []).getD i 0 ∧ (rs.getD q []).getD i 0 < rs.length:=by
 have hw:=y3 h
 unfold jB at h
 simp only [Bool.and_eq_true] at h
 have hb:=H4 h.2 hq
 unfold jT wF at hb
 simp only [Bool.or_eq_false_iff,Bool.not_eq_false',decide_eq_true_eq] at hb
 have hn:(seek (badQ rs.length (rs.getD q [])) (rs.getD q []).length 0).isNone = true:=by
  cases hs:seek (badQ rs.length (rs.getD q [])) (rs.getD q []).length 0 with
  | none => rfl
  | some r => rw [hs] at hb; cases hb.2
 exact AF.1 (H4 hn (by omega))
theorem NV {a:Aut} (h:AOK a) {q l:Int} (h0:0 ≤ q) (h1:q < a.nx.length) (h2:0 ≤ l) (h3:l < 6):0 ≤ goI a.al a.nx q l ∧ goI a.al a.nx q l < a.nx.length:=by
 unfold goI
 split
 ·rename_i hb
  exact aRc h (by omega) (qO h2 h3 hb).1
 ·exact ⟨h0,h1⟩
theorem XD (al:Int):(aE al).Pairwise (· < ·):=by
 unfold aE
 exact List.Pairwise.filter _ (by decide)
def nxT (a b:Aut) (v l:Int):List Int:=[goI a.al a.nx (v.tdiv b.nx.length) l * b.nx.length + goI b.al b.nx (v.tmod b.nx.length) l]
def glT (f:Bool → Bool → Bool) (a b:Aut) (v:Int):Bool:=f (a.ac.getD (v.tdiv b.nx.length).toNat false) (b.ac.getD (v.tmod b.nx.length).toNat false)
theorem Z0 {na nb v:Int} (hb:0 < nb) (h0:0 ≤ v) (h1:v < na * nb):(0 ≤ v.tdiv nb ∧ v.tdiv nb < na) ∧ (0 ≤ v.tmod nb ∧ v.tmod nb < nb):=by
 rw [Int.tdiv_eq_ediv_of_nonneg h0,Int.tmod_eq_emod_of_nonneg h0]
 exact ⟨⟨Int.ediv_nonneg h0 (by omega),Int.ediv_lt_of_lt_mul hb h1⟩,Int.emod_nonneg _ (by omega),Int.emod_lt_of_pos _ hb⟩
theorem VY {x y na nb:Int} (hx:0 ≤ x ∧ x < na) (hy:0 ≤ y ∧ y < nb):0 ≤ x * nb + y ∧ x * nb + y < na * nb:=by
 have h1:0 ≤ x * nb:=Int.mul_nonneg hx.1 (by omega)
 have h2:(x + 1) * nb ≤ na * nb:=Int.mul_le_mul_of_nonneg_right (by omega) (by omega)
 rw [Int.add_mul,Int.one_mul] at h2
 omega
theorem aH9 {a b:Aut} (ha:AOK a) (hb:AOK b) {v c:Int} (h0:0 ≤ v) (h1:v < (a.nx.length:Int) * b.nx.length) (hc:0 ≤ c ∧ c < 6):∀ m ∈ nxT a b v c,0 ≤ m ∧ m < (a.nx.length:Int) * b.nx.length:=by
 intro m hm
 obtain ⟨b1,b2,b3,b4⟩:=mT hb
 obtain ⟨p,q⟩:=Z0 (na:=a.nx.length) (nb:=b.nx.length) (by omega) h0 h1
 simp only [nxT,List.mem_singleton] at hm
 subst hm
 exact VY (NV ha p.1 p.2 hc.1 hc.2) (NV hb q.1 q.2 hc.1 hc.2)
def twoG (f:Bool → Bool → Bool) (a b:Aut) (i j:Int):List Int × Bool:=P8 (nxT a b) (glT f a b) (aE a.al) [i * b.nx.length + j] (a.nx.length * b.nx.length)
end Ev
end Go.Proofs.YtppdfjdfjfoddaaDoor
