/-
  Adding an edge.
-/
import Derived.Test.YtojaohcpgelhmaaDoorSwapS
import Derived.Test.YtojaohcpgelhmaaDoorDropS
section
set_option linter.unusedSimpArgs false
set_option linter.unusedVariables false
set_option maxRecDepth 8000
set_option pp.maxSteps 6000
set_option maxHeartbeats 4000000
namespace Go.Proofs.YtojaohcpgelhmaaDoor
namespace Ev

end Ev
end Go.Proofs.YtojaohcpgelhmaaDoor
end

/-!
  Adding an edge: both put it at the same place.
-/
section
set_option linter.unusedSimpArgs false
set_option linter.unusedVariables false
namespace Go.Proofs.YtojaohcpgelhmaaDoor
namespace Ev

theorem leE_of_before {a b : Edge} (h : beforeE a b = true) : leE a b = true := by
  unfold leE
  unfold beforeE at h ⊢
  by_cases h1 : a.fr = b.fr
  · by_cases h2 : a.lt = b.lt
    · simp only [h1, h2, if_true, decide_eq_true_eq] at h ⊢
      simp; omega
    · have h2' : ¬ b.lt = a.lt := fun e => h2 e.symm
      simp only [h1, h2, h2', if_true, if_false, decide_eq_true_eq] at h ⊢
      simp; omega
  · have h1' : ¬ b.fr = a.fr := fun e => h1 e.symm
    simp only [h1, h1', if_false, decide_eq_true_eq] at h ⊢
    simp; omega

theorem sysOK_of {s : Sys} (h1 : isAlpha s.al = true) (h2 : 1 ≤ s.st) (h3 : s.st ≤ 16) (he : ∀ e ∈ s.es, edgeOK s.al s.st e = true) (hs : SortedE s.es) : sysOK s = true := by
  unfold sysOK
  simp only [Bool.and_eq_true, decide_eq_true_eq]
  refine ⟨⟨⟨h1, h2⟩, h3⟩, ?_⟩
  rw [Option.isNone_iff_eq_none, seek_none]
  intro k _ hk
  have hk' : k < s.es.length := by omega
  unfold badAt
  have a := he (s.es.getD k default) (by rw [List.getD_eq_getElem?_getD, List.getElem?_eq_getElem hk']; exact List.getElem_mem hk')
  rw [a]
  by_cases h0 : 0 < k
  · have b := sorted_get hs (i := k - 1) (j := k) (by omega) hk'
    rw [b]; simp
  · simp [h0]

end Ev
end Go.Proofs.YtojaohcpgelhmaaDoor
end

/-!
  The law: the program's DropEdge and the reference's answer the same, and share no memory.
-/
section
set_option linter.unusedSimpArgs false
set_option linter.unusedVariables false
set_option maxRecDepth 8000
set_option pp.maxSteps 6000
set_option maxHeartbeats 4000000
namespace Go.Proofs.YtojaohcpgelhmaaDoor
namespace Ev

end Ev
end Go.Proofs.YtojaohcpgelhmaaDoor
end

/-!
  The law: the program's AddEdge and the reference's answer the same, and share no memory.
-/
section
set_option linter.unusedSimpArgs false
set_option linter.unusedVariables false
set_option maxRecDepth 8000
set_option pp.maxSteps 6000
set_option maxHeartbeats 4000000
namespace Go.Proofs.YtojaohcpgelhmaaDoor
namespace Ev

end Ev
end Go.Proofs.YtojaohcpgelhmaaDoor
end
