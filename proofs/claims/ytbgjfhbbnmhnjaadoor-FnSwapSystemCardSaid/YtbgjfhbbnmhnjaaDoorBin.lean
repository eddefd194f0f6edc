/-
  The exact laws' own functions, at edges and systems: copies, comparisons, marks.
-/
import Derived.Test.YtbgjfhbbnmhnjaaDoorEdges
section
set_option linter.unusedSimpArgs false
set_option linter.unusedVariables false
set_option maxRecDepth 8000
set_option pp.maxSteps 6000
set_option maxHeartbeats 4000000
namespace Go.Proofs.YtbgjfhbbnmhnjaaDoor
namespace Ev

theorem edges_set0 {l : List Edge} {k : Nat} {v : Int} (h : k < l.length) : setRun (edgesD l) (k * 3) [.int .i64 v] = edgesD (l.set k ⟨v, (l.getD k default).lt, (l.getD k default).to⟩) := by
  unfold setRun
  rw [edgesD_takek, List.length_singleton, ← List.drop_drop, edges_drop h, List.set_eq_take_append_cons_drop, if_pos h, ← edgesD_app, edgesD_cons]
  simp
theorem edges_set1 {l : List Edge} {k : Nat} {v : Int} (h : k < l.length) : setRun (edgesD l) (k * 3 + 1) [.int .i64 v] = edgesD (l.set k ⟨(l.getD k default).fr, v, (l.getD k default).to⟩) := by
  have e : (edgesD l).take (k * 3 + 1) = edgesD (l.take k) ++ [.int .i64 (l.getD k default).fr] := by
    rw [List.take_add, edgesD_takek, edges_drop h]; rfl
  unfold setRun
  rw [e, List.length_singleton, Nat.add_assoc, ← List.drop_drop, edges_drop h, List.set_eq_take_append_cons_drop, if_pos h, ← edgesD_app, edgesD_cons]
  simp
theorem edges_set2 {l : List Edge} {k : Nat} {v : Int} (h : k < l.length) : setRun (edgesD l) (k * 3 + 2) [.int .i64 v] = edgesD (l.set k ⟨(l.getD k default).fr, (l.getD k default).lt, v⟩) := by
  have e : (edgesD l).take (k * 3 + 2) = edgesD (l.take k) ++ [.int .i64 (l.getD k default).fr, .int .i64 (l.getD k default).lt] := by
    rw [List.take_add, edgesD_takek, edges_drop h]; rfl
  unfold setRun
  rw [e, List.length_singleton, Nat.add_assoc, ← List.drop_drop, edges_drop h, List.set_eq_take_append_cons_drop, if_pos h, ← edgesD_app, edgesD_cons]
  simp

/-- A call by reference that reaches one slice of data. -/
theorem kCall_ref {R : Type} {E : Env} {call : CallF} {h : H} {f : FuncId} {args : List A} {r : A} {k : A → H → Option R} {id e g e2 g2 : Nat} {cs cs2 : List D} (hi : h[id]? = some (.arr cs e g)) (hid : idsL args = [id]) (hm : (E.hint f).mode = 0) (hr : idsA r = []) (he : call f (mapAs (place [id]) args) [.arr cs e g] = some (r, [.arr cs2 e2 g2])) :
    kCall E call h f args k = k r (h.set id (.arr cs2 e2 g2)) := by
  have hre : reach fuelR h [id] [] = [id] := by
    have e1 : reach fuelR h [id] [] = match h[id]? with
      | some (.box cs) => reach (fuelR - 1) h ([] ++ idsL cs) ([] ++ [id])
      | some (.vec cs _ _) => reach (fuelR - 1) h ([] ++ idsL cs) ([] ++ [id])
      | some .void => reach (fuelR - 1) h [] []
      | some _ => reach (fuelR - 1) h [] ([] ++ [id])
      | none => reach (fuelR - 1) h [] [] := rfl
    rw [e1, hi]; rfl
  have hpk : pack h [id] = [.arr cs e g] := by
    simp only [pack, List.map_cons, List.map_nil, List.getD_eq_getElem?_getD, hi]; rfl
  unfold kCall
  rw [hid, hre, hpk]
  have hc : aCall call E.hint [.arr cs e g] f (mapAs (place [id]) args) = some (r, [.arr cs2 e2 g2]) := by
    unfold aCall; rw [hm]; exact he
  rw [hc]
  have hcl : closed h [id] [id] = true := by
    simp only [closed, List.all_cons, List.all_nil, hi]; simp
  simp only [List.length_cons, List.length_nil, Nat.le_refl, hcl, and_self, if_true, mapA_none r hr]
  simp only [putBack, mapO, List.map_nil, List.append_nil]

end Ev
end Go.Proofs.YtbgjfhbbnmhnjaaDoor
end

/-!
  Binary search, sorted edges: plain laws.
-/
section
set_option linter.unusedSimpArgs false
set_option linter.unusedVariables false
namespace Go.Proofs.YtbgjfhbbnmhnjaaDoor
namespace Ev

/-! ### the order of edges -/

theorem beforeE_irrefl {e : Edge} : beforeE e e = false := by simp [beforeE]
theorem beforeE_trans {e f g : Edge} (h1 : beforeE e f = true) (h2 : beforeE f g = true) : beforeE e g = true := by
  unfold beforeE at *
  split at h1 <;> split at h2 <;> (try split at h1) <;> (try split at h2) <;> simp only [decide_eq_true_eq] at h1 h2 <;> (split <;> (try split) <;> simp only [decide_eq_true_eq] <;> omega)
theorem beforeE_total {e f : Edge} (h1 : beforeE e f = false) (h2 : beforeE f e = false) : e = f := by
  obtain ⟨a, b, c⟩ := e
  obtain ⟨a', b', c'⟩ := f
  simp only [beforeE] at h1 h2
  have : a = a' ∧ b = b' ∧ c = c' := by
    split at h1 <;> split at h2 <;> (try split at h1) <;> (try split at h2) <;> simp only [decide_eq_false_iff_not] at h1 h2 <;> refine ⟨?_, ?_, ?_⟩ <;> omega
  obtain ⟨rfl, rfl, rfl⟩ := this
  rfl
theorem beforeE_asymm {e f : Edge} (h : beforeE e f = true) : beforeE f e = false := by
  cases h2 : beforeE f e with
  | false => rfl
  | true => have := beforeE_trans h h2; rw [beforeE_irrefl] at this; cases this

theorem cmpE_lt {e f : Edge} : decide (cmpE e f < 0) = beforeE e f := by
  have h := beforeE_cmp (e := e) (f := f)
  by_cases h1 : 0 ≤ cmpE e f
  · have h2 : ¬ cmpE e f < 0 := by omega
    simp only [h1, decide_true] at h
    simp only [h2, decide_false]
    cases hb : beforeE e f <;> simp_all
  · have h2 : cmpE e f < 0 := by omega
    simp only [h1, decide_false] at h
    simp only [h2, decide_true]
    cases hb : beforeE e f <;> simp_all

/-- Strictly ascending. -/
def SortedE (l : List Edge) : Prop := l.Pairwise fun a b => beforeE a b = true

theorem sortedE_of {l : List Edge} (h : ∀ i, 0 < i → i < l.length → beforeE (l.getD (i - 1) default) (l.getD i default) = true) : SortedE l := by
  unfold SortedE
  induction l with
  | nil => exact List.Pairwise.nil
  | cons e l ih =>
    have hl := ih fun i h1 h2 => by
      have := h (i + 1) (by omega) (by simp; omega)
      obtain ⟨j, rfl⟩ : ∃ j, i = j + 1 := ⟨i - 1, by omega⟩
      simpa using this
    refine List.Pairwise.cons ?_ hl
    cases l with
    | nil => intro x hx; cases hx
    | cons f l =>
      have h1 := h 1 (by omega) (by simp)
      simp only [Nat.sub_self, List.getD_cons_zero, List.getD_cons_succ] at h1
      intro x hx
      rcases List.mem_cons.1 hx with rfl | hx
      · exact h1
      · exact beforeE_trans h1 ((List.pairwise_cons.1 hl).1 x hx)

theorem sysOK_sorted {s : Sys} (h : sysOK s = true) : SortedE s.es := by
  unfold sysOK at h
  simp only [Bool.and_eq_true] at h
  have h4 := h.2
  rw [Option.isNone_iff_eq_none, seek_none] at h4
  refine sortedE_of fun i h1 h2 => ?_
  have := h4 i (by omega) (by omega)
  unfold badAt at this
  simp only [Bool.or_eq_false_iff, Bool.and_eq_false_imp, decide_eq_true_eq, Bool.not_eq_false'] at this
  exact this.2 h1

theorem sysOK_edge {s : Sys} (h : sysOK s = true) {e : Edge} (he : e ∈ s.es) : edgeOK s.al s.st e = true := by
  unfold sysOK at h
  simp only [Bool.and_eq_true] at h
  have h4 := h.2
  rw [Option.isNone_iff_eq_none, seek_none] at h4
  obtain ⟨i, hi⟩ := List.getElem?_of_mem he
  have hl := (List.getElem?_eq_some_iff.1 hi).1
  have := h4 i (by omega) (by omega)
  unfold badAt at this
  simp only [Bool.or_eq_false_iff, Bool.not_eq_false'] at this
  have h5 := this.1
  rw [List.getD_eq_getElem?_getD, hi] at h5
  exact h5

/-! ### where an edge is -/

theorem sorted_get {l : List Edge} (h : SortedE l) {i j : Nat} (hij : i < j) (hj : j < l.length) : beforeE (l.getD i default) (l.getD j default) = true := by
  have hi : i < l.length := by omega
  rw [List.getD_eq_getElem?_getD, List.getElem?_eq_getElem hi, List.getD_eq_getElem?_getD, List.getElem?_eq_getElem hj]
  exact List.pairwise_iff_getElem.1 h i j hi hj hij

end Ev
end Go.Proofs.YtbgjfhbbnmhnjaaDoor
end
