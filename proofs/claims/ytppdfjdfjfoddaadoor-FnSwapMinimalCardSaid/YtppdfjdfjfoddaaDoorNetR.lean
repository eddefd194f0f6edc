/-
  Products as the reference searches them: what the search of a product of automata finds.
-/
import Derived.Test.YtppdfjdfjfoddaaDoorNetQ
set_option linter.unusedSimpArgs false
set_option linter.unusedVariables false
set_option maxRecDepth 8000
set_option maxHeartbeats 4000000
namespace Go.Proofs.YtppdfjdfjfoddaaDoor
namespace Ev
theorem o6:∀ {N:Nat} {l:List Int},l.Nodup → (∀ x ∈ l,0 ≤ x ∧ x < N) → l.length ≤ N
 | 0,l,_,hr => by
  cases l with
  | nil => exact Nat.le_refl _
  | cons x l => have:=hr x List.mem_cons_self; omega
 | N + 1,l,hn,hr => by
  by_cases h:(N:Int) ∈ l
  ·have h1:=o6 (N:=N) (l:=l.erase (N:Int)) (hn.erase (N:Int)) (fun x hx => by
    rw [hn.mem_erase_iff] at hx
    have:=hr x hx.2; omega)
   rw [List.length_erase_of_mem h] at h1
   omega
  ·have h1:=o6 (N:=N) hn (fun x hx => by
    have:=hr x hx
    have:x ≠ N:=fun e => h (e ▸ hx)
    omega)
   omega
section
variable {nx:Int → Int → List Int} {gl:Int → Bool} {ls:List Int} {KM:Nat} {tab:List (List (List Int))}
end
end Ev
end Go.Proofs.YtppdfjdfjfoddaaDoor
