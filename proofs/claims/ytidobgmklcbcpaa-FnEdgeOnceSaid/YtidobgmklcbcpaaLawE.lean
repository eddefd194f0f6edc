/-
  The exact laws' own functions, at edges and systems: copies, comparisons, marks.
-/
import Derived.Test.YtidobgmklcbcpaaEdges
set_option linter.unusedSimpArgs false
set_option linter.unusedVariables false
set_option maxRecDepth 8000
set_option pp.maxSteps 6000
set_option maxHeartbeats 4000000
namespace Go.Proofs.Ytidobgmklcbcpaa
namespace Ev

theorem edges_set0 {l : List Edge} {k : Nat} {v : Int} (h : k < l.length) : setRun (edgesD l) (k * 3) [.int .i64 v] = edgesD (l.set k ⟨v, (l.getD k default).lt, (l.getD k default).to⟩) := by
  unfold setRun
  rw [edgesD_takek, List.length_singleton, ← List.drop_drop, edges_drop h, List.set_eq_take_append_cons_drop, if_pos h, ← edgesD_app, edgesD_cons]
  simp
theorem edges_set1 {l : List Edge} {k : Nat} {v : Int} (h : k < l.length) : setRun (edgesD l) (k * 3 + 1) [.int .i64 v] = edgesD (l.set k ⟨(l.getD k default).fr, v, (l.getD k default).to⟩) := by
  have e : (edgesD l).take (k * 3 + 1) = edgesD (l.take k) ++ [.int .i64 (l.getD k default).fr] := by
    rw [List.take_add, edgesD_takek, edges_drop h]; rfl
  unfold setRun
  rw [e, List.length_singleton, Nat.add_assoc, ← List.drop_drop, edges_drop h, List.set_eq_take_append_cons_drop, if_pos h, ← edgesD_app, edgesD_cons]
  simp
theorem edges_set2 {l : List Edge} {k : Nat} {v : Int} (h : k < l.length) : setRun (edgesD l) (k * 3 + 2) [.int .i64 v] = edgesD (l.set k ⟨(l.getD k default).fr, (l.getD k default).lt, v⟩) := by
  have e : (edgesD l).take (k * 3 + 2) = edgesD (l.take k) ++ [.int .i64 (l.getD k default).fr, .int .i64 (l.getD k default).lt] := by
    rw [List.take_add, edgesD_takek, edges_drop h]; rfl
  unfold setRun
  rw [e, List.length_singleton, Nat.add_assoc, ← List.drop_drop, edges_drop h, List.set_eq_take_append_cons_drop, if_pos h, ← edgesD_app, edgesD_cons]
  simp

/-- Edges with numbers counted up. -/
def marks : Nat → Int → List Edge
  | 0, _ => []
  | j + 1, k => ⟨k, k + 1, k + 1 + 1⟩ :: marks j (k + 1 + 1 + 1)

end Ev
end Go.Proofs.Ytidobgmklcbcpaa
