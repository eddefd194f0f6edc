/-
  The law FnSwapKeeps of the given program holds as its card states it: for every input it returns true, and the input reads as it did. Condition (the row's own): math/bits' two tables are laid as the program's text lays them; the card ties them to that text.
-/
import Derived.Test.YtahbdkmimmnadaaGreatDoorRowSwapKeeps
import Derived.Test.YtahbdkmimmnadaaGreatDoorCloSwapKeeps
import Derived.Test.YtahbdkmimmnadaaGreatDoorCards
import Derived.Test.YtahbdkmimmnadaaGreatDoorTie
import Derived.SevenTiedAt
namespace Go.Proofs.YtahbdkmimmnadaaGreatDoor.fnSwapKeeps
theorem over:Rows.FnSwapKeepsSaid :=
 OpenClaim.holds_of_wide 6 Tryz.f6 rfl rfl rfl rfl rfl rfl rfl ⟨rfl,rfl,rfl,rfl,rfl⟩ rfl rfl rfl rfl rfl (by kernel_rfl) Tryz.func6 closed
  (of_decide_eq_true (by kernel_rfl)) (by unfold Func.isWrapper; first | (rw [if_pos (by decide +kernel)]; kernel_rfl) | (rw [if_neg (by decide +kernel)]; exact ⟨rfl,rfl⟩))
  (fun os started H enc _ => lifted os started H enc)
theorem proved:Rows.FnSwapKeepsCardSaid :=
 Claim7.holds_tied_plain_at .later [] [.data, .data] true (true, "30872a8fe1c0cf17efac5f90e7f2b968f3881aab7aed8265e46bf3cb3063f46c") false
  over (fun _ h => by cases h) (by kernel_rfl) (fun _ h => by cases h) fnSwapKeeps_row_tie rfl ⟨rfl,rfl⟩ (by kernel_rfl) rfl
  (fun f fn hf hfn => by
   obtain rfl : f = 6 := Option.some.inj ((show Tryz.prog.funcNamed "loop.example/assumeguarantee/laws.FnSwapKeeps" = some 6 by kernel_rfl).symm.trans hf) |>.symm
   obtain rfl:fn = Tryz.f6:=(Option.some.inj (Tryz.func6.symm.trans hfn)).symm
   exact ⟨by kernel_rfl,fun j t ht => by
    rw [params] at ht
    have h3:t = 42:=by
     rcases j with _ | _ | j
     ·simpa using ht.symm
     ·simpa using ht.symm
     ·simp at ht
    subst h3
    exact (show Tryz.prog.wantsStandIn 42 = false by kernel_rfl)⟩)
  (by kernel_rfl)
#print axioms proved
end Go.Proofs.YtahbdkmimmnadaaGreatDoor.fnSwapKeeps
