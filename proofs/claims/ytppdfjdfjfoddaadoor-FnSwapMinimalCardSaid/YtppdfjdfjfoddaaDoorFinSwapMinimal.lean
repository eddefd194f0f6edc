/-
  The law FnSwapMinimal of the given program holds as its card states it: for every input it returns true, and the input reads as it did. Condition (the row's own): math/bits' two tables are laid as the program's text lays them; the card ties them to that text.
-/
import Derived.Test.YtppdfjdfjfoddaaDoorRowSwapMinimal
import Derived.Test.YtppdfjdfjfoddaaDoorCloSwapMinimal
import Derived.Test.YtppdfjdfjfoddaaDoorCards
import Derived.Test.YtppdfjdfjfoddaaDoorTie
import Derived.SevenTiedAt
namespace Go.Proofs.YtppdfjdfjfoddaaDoor.fnSwapMinimal
theorem over:Rows.FnSwapMinimalSaid :=
 OpenClaim.holds_of_wide 4 Tryd.f4 rfl rfl rfl rfl rfl rfl rfl ⟨rfl,rfl,rfl,rfl,rfl⟩ rfl rfl rfl rfl rfl (by kernel_rfl) Tryd.func4 closed
  (of_decide_eq_true (by kernel_rfl)) (by unfold Func.isWrapper; first | (rw [if_pos (by decide +kernel)]; kernel_rfl) | (rw [if_neg (by decide +kernel)]; exact ⟨rfl,rfl⟩))
  (fun os started H enc _ => lifted os started H enc)
theorem proved:Rows.FnSwapMinimalCardSaid :=
 Claim7.holds_tied_plain_at .later [] [.data, .data, .data] true (true, "54d81d749fb7d1e12c79cbee1cf8f3b2cd1d7b11cf6cfa188011efc58240f4d1") false
  over (fun _ h => by cases h) (by kernel_rfl) (fun _ h => by cases h) fnSwapMinimal_row_tie rfl ⟨rfl,rfl⟩ (by kernel_rfl) rfl
  (fun f fn hf hfn => by
   obtain rfl : f = 4 := Option.some.inj ((show Tryd.prog.funcNamed "loop.example/assumeguarantee/laws.FnSwapMinimal" = some 4 by kernel_rfl).symm.trans hf) |>.symm
   obtain rfl:fn = Tryd.f4:=(Option.some.inj (Tryd.func4.symm.trans hfn)).symm
   exact ⟨by kernel_rfl,fun j t ht => by
    rw [params] at ht
    have h3:t = 22:=by
     rcases j with _ | j
     ·simpa using ht.symm
     ·simp at ht
    subst h3
    exact (show Tryd.prog.wantsStandIn 22 = false by kernel_rfl)⟩)
  (by kernel_rfl)
#print axioms proved
end Go.Proofs.YtppdfjdfjfoddaaDoor.fnSwapMinimal
