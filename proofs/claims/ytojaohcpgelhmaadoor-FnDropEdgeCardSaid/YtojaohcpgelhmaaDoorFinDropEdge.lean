/-
  The law FnDropEdge of the given program holds as its card states it: for every input it returns true, and the input reads as it did. Condition (the row's own): math/bits' two tables are laid as the program's text lays them; the card ties them to that text.
-/
import Derived.Test.YtojaohcpgelhmaaDoorRowDropEdge
import Derived.Test.YtojaohcpgelhmaaDoorCloDropEdge
import Derived.Test.YtojaohcpgelhmaaDoorCards
import Derived.Test.YtojaohcpgelhmaaDoorTie
import Derived.SevenTiedAt
namespace Go.Proofs.YtojaohcpgelhmaaDoor.fnDropEdge
theorem over : Rows.FnDropEdgeSaid :=
  OpenClaim.holds_of_wide 5 Tryd.f5 rfl rfl rfl rfl rfl rfl rfl ⟨rfl, rfl, rfl, rfl, rfl⟩ rfl rfl rfl rfl rfl (by kernel_rfl) Tryd.func5 closed
    (of_decide_eq_true (by kernel_rfl)) (by unfold Func.isWrapper; first | (rw [if_pos (by decide +kernel)]; kernel_rfl) | (rw [if_neg (by decide +kernel)]; exact ⟨rfl, rfl⟩))
    (fun os started H enc _ => lifted os started H enc)

theorem proved : Rows.FnDropEdgeCardSaid :=
  Claim7.holds_tied_plain_at .later [] [.data, .data] true (true, "28bf8df118c30dc7bed67c3ceed91359df4bb7695b80ad08809af1111116aeed") false
    over (fun _ h => by cases h) (by kernel_rfl) (fun _ h => by cases h) fnDropEdge_row_tie rfl ⟨rfl, rfl⟩ (by kernel_rfl) rfl
    (fun f fn hf hfn => by
      obtain rfl : f = 5 := Option.some.inj ((show Tryd.prog.funcNamed "loop.example/assumeguarantee/laws.FnDropEdge" = some 5 by kernel_rfl).symm.trans hf) |>.symm
      obtain rfl : fn = Tryd.f5 := (Option.some.inj (Tryd.func5.symm.trans hfn)).symm
      exact ⟨by kernel_rfl, fun j t ht => by
        rw [params] at ht
        have h3 : t = 22 := by
          rcases j with _ | j
          · simpa using ht.symm
          · simp at ht
        subst h3
        exact (show Tryd.prog.wantsStandIn 22 = false by kernel_rfl)⟩)
    (by kernel_rfl)
#print axioms proved
end Go.Proofs.YtojaohcpgelhmaaDoor.fnDropEdge
