/-
  The exact laws' own functions, at edges and systems: copies, comparisons, marks.
-/
import Derived.Test.YtojaohcpgelhmaaDoorEdges
section
set_option linter.unusedSimpArgs false
set_option linter.unusedVariables false
set_option maxRecDepth 8000
set_option pp.maxSteps 6000
set_option maxHeartbeats 4000000
namespace Go.Proofs.YtojaohcpgelhmaaDoor
namespace Ev

theorem edges_set0 {l : List Edge} {k : Nat} {v : Int} (h : k < l.length) : setRun (edgesD l) (k * 3) [.int .i64 v] = edgesD (l.set k ⟨v, (l.getD k default).lt, (l.getD k default).to⟩) := by
  unfold setRun
  rw [edgesD_takek, List.length_singleton, ← List.drop_drop, edges_drop h, List.set_eq_take_append_cons_drop, if_pos h, ← edgesD_app, edgesD_cons]
  simp
theorem edges_set1 {l : List Edge} {k : Nat} {v : Int} (h : k < l.length) : setRun (edgesD l) (k * 3 + 1) [.int .i64 v] = edgesD (l.set k ⟨(l.getD k default).fr, v, (l.getD k default).to⟩) := by
  have e : (edgesD l).take (k * 3 + 1) = edgesD (l.take k) ++ [.int .i64 (l.getD k default).fr] := by
    rw [List.take_add, edgesD_takek, edges_drop h]; rfl
  unfold setRun
  rw [e, List.length_singleton, Nat.add_assoc, ← List.drop_drop, edges_drop h, List.set_eq_take_append_cons_drop, if_pos h, ← edgesD_app, edgesD_cons]
  simp
theorem edges_set2 {l : List Edge} {k : Nat} {v : Int} (h : k < l.length) : setRun (edgesD l) (k * 3 + 2) [.int .i64 v] = edgesD (l.set k ⟨(l.getD k default).fr, (l.getD k default).lt, v⟩) := by
  have e : (edgesD l).take (k * 3 + 2) = edgesD (l.take k) ++ [.int .i64 (l.getD k default).fr, .int .i64 (l.getD k default).lt] := by
    rw [List.take_add, edgesD_takek, edges_drop h]; rfl
  unfold setRun
  rw [e, List.length_singleton, Nat.add_assoc, ← List.drop_drop, edges_drop h, List.set_eq_take_append_cons_drop, if_pos h, ← edgesD_app, edgesD_cons]
  simp

/-- A call by reference that reaches one slice of data. -/
theorem kCall_ref {R : Type} {E : Env} {call : CallF} {h : H} {f : FuncId} {args : List A} {r : A} {k : A → H → Option R} {id e g e2 g2 : Nat} {cs cs2 : List D} (hi : h[id]? = some (.arr cs e g)) (hid : idsL args = [id]) (hm : (E.hint f).mode = 0) (hr : idsA r = []) (he : call f (mapAs (place [id]) args) [.arr cs e g] = some (r, [.arr cs2 e2 g2])) :
    kCall E call h f args k = k r (h.set id (.arr cs2 e2 g2)) := by
  have hre : reach fuelR h [id] [] = [id] := by
    have e1 : reach fuelR h [id] [] = match h[id]? with
      | some (.box cs) => reach (fuelR - 1) h ([] ++ idsL cs) ([] ++ [id])
      | some (.vec cs _ _) => reach (fuelR - 1) h ([] ++ idsL cs) ([] ++ [id])
      | some .void => reach (fuelR - 1) h [] []
      | some _ => reach (fuelR - 1) h [] ([] ++ [id])
      | none => reach (fuelR - 1) h [] [] := rfl
    rw [e1, hi]; rfl
  have hpk : pack h [id] = [.arr cs e g] := by
    simp only [pack, List.map_cons, List.map_nil, List.getD_eq_getElem?_getD, hi]; rfl
  unfold kCall
  rw [hid, hre, hpk]
  have hc : aCall call E.hint [.arr cs e g] f (mapAs (place [id]) args) = some (r, [.arr cs2 e2 g2]) := by
    unfold aCall; rw [hm]; exact he
  rw [hc]
  have hcl : closed h [id] [id] = true := by
    simp only [closed, List.all_cons, List.all_nil, hi]; simp
  simp only [List.length_cons, List.length_nil, Nat.le_refl, hcl, and_self, if_true, mapA_none r hr]
  simp only [putBack, mapO, List.map_nil, List.append_nil]

end Ev
end Go.Proofs.YtojaohcpgelhmaaDoor
end

/-!
  Binary search, sorted edges: plain laws.
-/
section
set_option linter.unusedSimpArgs false
set_option linter.unusedVariables false
namespace Go.Proofs.YtojaohcpgelhmaaDoor
namespace Ev

/-! ### the order of edges -/

theorem beforeE_irrefl {e : Edge} : beforeE e e = false := by simp [beforeE]
theorem beforeE_trans {e f g : Edge} (h1 : beforeE e f = true) (h2 : beforeE f g = true) : beforeE e g = true := by
  unfold beforeE at *
  split at h1 <;> split at h2 <;> (try split at h1) <;> (try split at h2) <;> simp only [decide_eq_true_eq] at h1 h2 <;> (split <;> (try split) <;> simp only [decide_eq_true_eq] <;> omega)
theorem beforeE_total {e f : Edge} (h1 : beforeE e f = false) (h2 : beforeE f e = false) : e = f := by
  obtain ⟨a, b, c⟩ := e
  obtain ⟨a', b', c'⟩ := f
  simp only [beforeE] at h1 h2
  have : a = a' ∧ b = b' ∧ c = c' := by
    split at h1 <;> split at h2 <;> (try split at h1) <;> (try split at h2) <;> simp only [decide_eq_false_iff_not] at h1 h2 <;> refine ⟨?_, ?_, ?_⟩ <;> omega
  obtain ⟨rfl, rfl, rfl⟩ := this
  rfl
theorem beforeE_asymm {e f : Edge} (h : beforeE e f = true) : beforeE f e = false := by
  cases h2 : beforeE f e with
  | false => rfl
  | true => have := beforeE_trans h h2; rw [beforeE_irrefl] at this; cases this

theorem cmpE_lt {e f : Edge} : decide (cmpE e f < 0) = beforeE e f := by
  have h := beforeE_cmp (e := e) (f := f)
  by_cases h1 : 0 ≤ cmpE e f
  · have h2 : ¬ cmpE e f < 0 := by omega
    simp only [h1, decide_true] at h
    simp only [h2, decide_false]
    cases hb : beforeE e f <;> simp_all
  · have h2 : cmpE e f < 0 := by omega
    simp only [h1, decide_false] at h
    simp only [h2, decide_true]
    cases hb : beforeE e f <;> simp_all

/-- Strictly ascending. -/
def SortedE (l : List Edge) : Prop := l.Pairwise fun a b => beforeE a b = true

theorem sortedE_of {l : List Edge} (h : ∀ i, 0 < i → i < l.length → beforeE (l.getD (i - 1) default) (l.getD i default) = true) : SortedE l := by
  unfold SortedE
  induction l with
  | nil => exact List.Pairwise.nil
  | cons e l ih =>
    have hl := ih fun i h1 h2 => by
      have := h (i + 1) (by omega) (by simp; omega)
      obtain ⟨j, rfl⟩ : ∃ j, i = j + 1 := ⟨i - 1, by omega⟩
      simpa using this
    refine List.Pairwise.cons ?_ hl
    cases l with
    | nil => intro x hx; cases hx
    | cons f l =>
      have h1 := h 1 (by omega) (by simp)
      simp only [Nat.sub_self, List.getD_cons_zero, List.getD_cons_succ] at h1
      intro x hx
      rcases List.mem_cons.1 hx with rfl | hx
      · exact h1
      · exact beforeE_trans h1 ((List.pairwise_cons.1 hl).1 x hx)

theorem sysOK_sorted {s : Sys} (h : sysOK s = true) : SortedE s.es := by
  unfold sysOK at h
  simp only [Bool.and_eq_true] at h
  have h4 := h.2
  rw [Option.isNone_iff_eq_none, seek_none] at h4
  refine sortedE_of fun i h1 h2 => ?_
  have := h4 i (by omega) (by omega)
  unfold badAt at this
  simp only [Bool.or_eq_false_iff, Bool.and_eq_false_imp, decide_eq_true_eq, Bool.not_eq_false'] at this
  exact this.2 h1

theorem sysOK_edge {s : Sys} (h : sysOK s = true) {e : Edge} (he : e ∈ s.es) : edgeOK s.al s.st e = true := by
  unfold sysOK at h
  simp only [Bool.and_eq_true] at h
  have h4 := h.2
  rw [Option.isNone_iff_eq_none, seek_none] at h4
  obtain ⟨i, hi⟩ := List.getElem?_of_mem he
  have hl := (List.getElem?_eq_some_iff.1 hi).1
  have := h4 i (by omega) (by omega)
  unfold badAt at this
  simp only [Bool.or_eq_false_iff, Bool.not_eq_false'] at this
  have h5 := this.1
  rw [List.getD_eq_getElem?_getD, hi] at h5
  exact h5

/-! ### where an edge is -/

theorem sorted_get {l : List Edge} (h : SortedE l) {i j : Nat} (hij : i < j) (hj : j < l.length) : beforeE (l.getD i default) (l.getD j default) = true := by
  have hi : i < l.length := by omega
  rw [List.getD_eq_getElem?_getD, List.getElem?_eq_getElem hi, List.getD_eq_getElem?_getD, List.getElem?_eq_getElem hj]
  exact List.pairwise_iff_getElem.1 h i j hi hj hij

end Ev
end Go.Proofs.YtojaohcpgelhmaaDoor
end

/-!
  impl.SystemValid.
-/
section
set_option linter.unusedSimpArgs false
set_option linter.unusedVariables false
set_option maxRecDepth 8000
set_option pp.maxSteps 6000
set_option maxHeartbeats 4000000
namespace Go.Proofs.YtojaohcpgelhmaaDoor
namespace Ev

theorem edgeOK_eq {al st : Int} {e : Edge} : edgeOK al st e = (decide (0 ≤ e.fr) && (decide (e.fr < st) && (decide (0 ≤ e.to) && (decide (e.to < st) && (!decide (6 ≤ e.lt) && (decide (0 ≤ e.lt) && bitAt al e.lt)))))) := by
  have : decide (e.lt < 6) = !decide (6 ≤ e.lt) := by by_cases h : e.lt < 6 <;> simp [h] <;> omega
  unfold edgeOK
  rw [this]
  cases decide (0 ≤ e.fr) <;> cases decide (e.fr < st) <;> cases decide (0 ≤ e.to) <;> cases decide (e.to < st) <;> cases decide (0 ≤ e.lt) <;> cases decide (6 ≤ e.lt) <;> rfl

theorem good_cases {al st : Int} {l : List Edge} {i : Nat} (h : badAt al st l i = false) : 0 ≤ (l.getD i default).fr ∧ (l.getD i default).fr < st ∧ 0 ≤ (l.getD i default).to ∧ (l.getD i default).to < st ∧ ¬ 6 ≤ (l.getD i default).lt ∧ 0 ≤ (l.getD i default).lt ∧ bitAt al (l.getD i default).lt = true ∧ (0 < i → ¬ 0 ≤ cmpE (l.getD (i - 1) default) (l.getD i default)) := by
  have hc := beforeE_cmp (e := l.getD (i - 1) default) (f := l.getD i default)
  unfold badAt at h
  rw [edgeOK_eq] at h
  simp only [Bool.or_eq_false_iff, Bool.not_eq_false', Bool.and_eq_true, decide_eq_true_eq, Bool.not_eq_true', decide_eq_false_iff_not, Bool.and_eq_false_imp] at h
  obtain ⟨⟨h1, h2, h3, h4, h5, h6, h7⟩, h8⟩ := h
  refine ⟨h1, h2, h3, h4, h5, h6, h7, fun hz => ?_⟩
  rw [h8 hz] at hc
  simpa using hc

theorem bad_cases {al st : Int} {l : List Edge} {i : Nat} (h : badAt al st l i = true) : ¬ 0 ≤ (l.getD i default).fr ∨ 0 ≤ (l.getD i default).fr ∧ (¬ (l.getD i default).fr < st ∨ (l.getD i default).fr < st ∧ (¬ 0 ≤ (l.getD i default).to ∨ 0 ≤ (l.getD i default).to ∧ (¬ (l.getD i default).to < st ∨ (l.getD i default).to < st ∧ (6 ≤ (l.getD i default).lt ∨ ¬ 6 ≤ (l.getD i default).lt ∧ (¬ 0 ≤ (l.getD i default).lt ∨ 0 ≤ (l.getD i default).lt ∧ (bitAt al (l.getD i default).lt = false ∨ bitAt al (l.getD i default).lt = true ∧ 0 < i ∧ 0 ≤ cmpE (l.getD (i - 1) default) (l.getD i default))))))) := by
  have hc := beforeE_cmp (e := l.getD (i - 1) default) (f := l.getD i default)
  unfold badAt at h
  rw [edgeOK_eq] at h
  by_cases h1 : 0 ≤ (l.getD i default).fr
  · refine .inr ⟨h1, ?_⟩
    by_cases h2 : (l.getD i default).fr < st
    · refine .inr ⟨h2, ?_⟩
      by_cases h3 : 0 ≤ (l.getD i default).to
      · refine .inr ⟨h3, ?_⟩
        by_cases h4 : (l.getD i default).to < st
        · refine .inr ⟨h4, ?_⟩
          by_cases h5 : 6 ≤ (l.getD i default).lt
          · exact .inl h5
          · refine .inr ⟨h5, ?_⟩
            by_cases h6 : 0 ≤ (l.getD i default).lt
            · refine .inr ⟨h6, ?_⟩
              cases h7 : bitAt al (l.getD i default).lt with
              | false => exact .inl rfl
              | true =>
                simp only [h1, h2, h3, h4, h5, h6, h7, decide_true, decide_false, Bool.not_false, Bool.and_self, Bool.not_true, Bool.false_or, Bool.and_eq_true, decide_eq_true_eq] at h
                rw [h.2] at hc
                exact .inr ⟨rfl, h.1, by simpa using hc⟩
            · exact .inl h6
        · exact .inl h4
      · exact .inl h3
    · exact .inl h2
  · exact .inl h1

theorem loop_i_SystemValid {R : Type} {L n : Nat} (hL : 2 ^ 60 ≤ L) (hn : 5 ≤ n) {al st : Int} {l : List Edge} (hl : l.length ≤ 4294967296) {k : Exit → List A → H → Option R} : ∀ (j : Nat) (i : Int) (m : Nat) (h0 : 0 ≤ i) (hi : i + j = l.length) (hm : j < m),
    kLoop env (evCall env L n) L 0 [] (false :: true :: true :: false :: false :: false :: false :: false :: false :: false :: false :: false :: false :: false :: false :: false :: false :: false :: false :: false :: true :: true :: true :: false :: false :: false :: false :: false :: false :: false :: false :: false :: false :: false :: false :: false :: false :: false :: false :: false :: false :: false :: false :: false :: false :: false :: false :: false :: false :: false :: false :: false :: false :: false :: false :: false :: false :: false :: false :: false :: false :: false :: false :: false :: false :: false :: false :: false :: []) (lp_i_SystemValid 0) (true :: false :: false :: true :: true :: true :: true :: true :: true :: true :: true :: true :: true :: true :: true :: true :: true :: true :: true :: true :: false :: false :: false :: true :: true :: true :: true :: true :: true :: true :: true :: true :: true :: true :: true :: true :: true :: true :: true :: true :: true :: true :: true :: true :: true :: true :: true :: true :: true :: true :: true :: true :: true :: true :: true :: true :: true :: true :: true :: true :: true :: true :: true :: true :: true :: true :: true :: true :: []) m (.junk :: .ptr 0 0 0 :: .d (.bool false) :: .junk :: .junk :: .junk :: .junk :: .junk :: .junk :: .junk :: .junk :: .junk :: .junk :: .junk :: .junk :: .junk :: .junk :: .junk :: .junk :: .junk :: .d (.ivs l.length (edgesD l)) :: .d (.int .i64 (l.length)) :: .d (.int .i64 i) :: .junk :: .junk :: .junk :: .junk :: .junk :: .junk :: .junk :: .junk :: .junk :: .junk :: .junk :: .junk :: .junk :: .junk :: .junk :: .junk :: .junk :: .junk :: .junk :: .junk :: .junk :: .junk :: .junk :: .junk :: .junk :: .junk :: .junk :: .junk :: .junk :: .junk :: .junk :: .junk :: .junk :: .junk :: .junk :: .junk :: .junk :: .junk :: .junk :: .junk :: .junk :: .junk :: .junk :: .junk :: .junk :: []) [.box [.d (.int .i64 al), .d (.int .i64 st), .d (.ivs l.length (edgesD l))]] k
    = match seek (badAt al st l) j i.toNat with
      | none => k (.exit 0) (.junk :: .ptr 0 0 0 :: .d (.bool false) :: .junk :: .junk :: .junk :: .junk :: .junk :: .junk :: .junk :: .junk :: .junk :: .junk :: .junk :: .junk :: .junk :: .junk :: .junk :: .junk :: .junk :: .d (.ivs l.length (edgesD l)) :: .d (.int .i64 (l.length)) :: .d (.int .i64 (l.length)) :: .junk :: .junk :: .junk :: .junk :: .junk :: .junk :: .junk :: .junk :: .junk :: .junk :: .junk :: .junk :: .junk :: .junk :: .junk :: .junk :: .junk :: .junk :: .junk :: .junk :: .junk :: .junk :: .junk :: .junk :: .junk :: .junk :: .junk :: .junk :: .junk :: .junk :: .junk :: .junk :: .junk :: .junk :: .junk :: .junk :: .junk :: .junk :: .junk :: .junk :: .junk :: .junk :: .junk :: .junk :: .junk :: []) [.box [.d (.int .i64 al), .d (.int .i64 st), .d (.ivs l.length (edgesD l))]]
      | some r => k .ret (.junk :: .ptr 0 0 0 :: .d (.bool false) :: .junk :: .junk :: .junk :: .junk :: .junk :: .junk :: .junk :: .junk :: .junk :: .junk :: .junk :: .junk :: .junk :: .junk :: .junk :: .junk :: .junk :: .d (.ivs l.length (edgesD l)) :: .d (.int .i64 (l.length)) :: .d (.int .i64 r) :: .junk :: .junk :: .junk :: .junk :: .junk :: .junk :: .junk :: .junk :: .junk :: .junk :: .junk :: .junk :: .junk :: .junk :: .junk :: .junk :: .junk :: .junk :: .junk :: .junk :: .junk :: .junk :: .junk :: .junk :: .junk :: .junk :: .junk :: .junk :: .junk :: .junk :: .junk :: .junk :: .junk :: .junk :: .junk :: .junk :: .junk :: .junk :: .junk :: .junk :: .junk :: .junk :: .junk :: .junk :: .junk :: []) [.box [.d (.int .i64 al), .d (.int .i64 st), .d (.ivs l.length (edgesD l))]] := by
  intro j
  induction j with
  | zero =>
    intro i m h0 hi hm
    obtain ⟨m, rfl⟩ : ∃ q, m = q + 1 := ⟨m - 1, by omega⟩
    obtain rfl : i = l.length := by omega
    rw [step_i_SystemValid_0]
    simp only [S_i_SystemValid_0, Tryd.f13, slimF, slimL, lpOf, codeOf, Option.getD_some, slim, loops, List.length_nil, Nat.add_zero, Nat.zero_add, slimO, slimG, List.map_cons, List.map_nil, List.getElem?_cons_zero, List.getElem?_cons_succ, Option.bind_some, Bool.false_eq_true, if_false, if_true, List.length_cons, List.replicate, List.cons_append, List.nil_append, List.append_nil, Nat.reduceAdd, Nat.reduceSub, List.getD_cons_zero, List.getD_cons_succ]
    simp -implicitDefEqProofs (maxSteps := 2000000) (disch := first | assumption | (refine Shut.mk ?_; kernel_rfl) | omega | (simp only [List.getElem?_cons_zero, List.getElem?_cons_succ]; done) | (simp only [List.length_append, List.length_cons, List.length_nil, List.length_set, List.length_replicate, List.length_map, List.length_take, List.length_drop] <;> omega) | (fail)) only [↓WD, ↓kAsg, ↓kRet, ↓reduceIte, ↓clash_free, ↓WDD, ↓kOpD_callv, WK, thawAt, evPick, aPut, leavesBody, outA, outS, outSs, idsA, idsL, mapA, calmAs, calmA, calmSl, calmPt, genOf, calmH, calmFrom, calmO, mapAs, maskB, isUndef, tidy, Int.reduceLT, Int.reduceLE, Int.reduceEq, Int.reduceNe, Int.reduceNeg, Int.reduceAdd, Int.reduceSub, Int.reduceMul, Int.reduceToNat, Nat.reduceAdd, Nat.reduceSub, aBuiltin, aAppend, aAppend0, aAppendV, isVec, bears, emptyArr, sliceAs, keeps, aBuildVec, aMakeVec, sliceCells, aBuildSlice, aIndexAddr, aLoad, runOf, ofCells, TY, LB, aLen, withInt, fillA, frzL, listWith, frz, frz0, deep, cellsA, setRun, okCell, List.replicate, notJunk, Nat.reduceMul, Nat.reduceLeDiff, Nat.reducePow, Nat.reduceBEq, boxIds, aResults, aResult, outAs, tupA, evNilCheck, aMove, MD, opds, evOp, asOper, one, two, evCallee, evAssign, aNew, evSlice, evField, evExtract, evFunc, pureOp, isCall, readOp, List.range', back, putBack, fuelR, closed, aStore, thawCells, place, pack, mapO, Nat.reduceEqDiff, Nat.reduceLT, maxNeed, i64_id, frzA, frzAs, memD, lentA, footC, ↓kc_i_isAlphabet, ↓kc_i_isState, ↓kc_i_has, ↓kc_i_compareEdges, ↓kl_i_isState, ↓kv_i_isState_1, LE, Int.lt_irrefl]
    rfl
  | succ j ih =>
    intro i m h0 hi hm
    obtain ⟨m, rfl⟩ : ∃ q, m = q + 1 := ⟨m - 1, by omega⟩
    have hc : i < l.length := by omega
    have hk : i.toNat < l.length := by omega
    have e1 : (i + 1).toNat = i.toNat + 1 := by omega
    have e2 : (i - 1).toNat = i.toNat - 1 := by omega
    have e3 : ((i.toNat : Nat) : Int) = i := by omega
    cases hb : badAt al st l i.toNat with
    | true =>
      rw [seek_pos hb]
      have hb' := bad_cases hb
      clear hb
      rcases hb' with b1 | ⟨b1, hb'⟩
      · clear ih; rw [step_i_SystemValid_0]
        simp only [S_i_SystemValid_0, Tryd.f13, slimF, slimL, lpOf, codeOf, Option.getD_some, slim, loops, List.length_nil, Nat.add_zero, Nat.zero_add, slimO, slimG, List.map_cons, List.map_nil, List.getElem?_cons_zero, List.getElem?_cons_succ, Option.bind_some, Bool.false_eq_true, if_false, if_true, List.length_cons, List.replicate, List.cons_append, List.nil_append, List.append_nil, Nat.reduceAdd, Nat.reduceSub, List.getD_cons_zero, List.getD_cons_succ]
        simp -implicitDefEqProofs (maxSteps := 2000000) (disch := first | assumption | (refine Shut.mk ?_; kernel_rfl) | omega | (simp only [List.getElem?_cons_zero, List.getElem?_cons_succ]; done) | (simp only [List.length_append, List.length_cons, List.length_nil, List.length_set, List.length_replicate, List.length_map, List.length_take, List.length_drop] <;> omega) | (fail)) only [↓WD, ↓kAsg, ↓kRet, ↓reduceIte, ↓clash_free, ↓WDD, ↓kOpD_callv, WK, thawAt, evPick, aPut, leavesBody, outA, outS, outSs, idsA, idsL, mapA, calmAs, calmA, calmSl, calmPt, genOf, calmH, calmFrom, calmO, mapAs, maskB, isUndef, tidy, Int.reduceLT, Int.reduceLE, Int.reduceEq, Int.reduceNe, Int.reduceNeg, Int.reduceAdd, Int.reduceSub, Int.reduceMul, Int.reduceToNat, Nat.reduceAdd, Nat.reduceSub, aBuiltin, aAppend, aAppend0, aAppendV, isVec, bears, emptyArr, sliceAs, keeps, aBuildVec, aMakeVec, sliceCells, aBuildSlice, aIndexAddr, aLoad, runOf, ofCells, TY, LB, aLen, withInt, fillA, frzL, listWith, frz, frz0, deep, cellsA, setRun, okCell, List.replicate, notJunk, Nat.reduceMul, Nat.reduceLeDiff, Nat.reducePow, Nat.reduceBEq, boxIds, aResults, aResult, outAs, tupA, evNilCheck, aMove, MD, opds, evOp, asOper, one, two, evCallee, evAssign, aNew, evSlice, evField, evExtract, evFunc, pureOp, isCall, readOp, List.range', back, putBack, fuelR, closed, aStore, thawCells, place, pack, mapO, Nat.reduceEqDiff, Nat.reduceLT, maxNeed, i64_id, frzA, frzAs, memD, lentA, footC, ↓kc_i_isAlphabet, ↓kc_i_isState, ↓kc_i_has, ↓kc_i_compareEdges, ↓kl_i_isState, ↓kv_i_isState_1, LE, hc, b1, e3]
      · rcases hb' with b2 | ⟨b2, hb'⟩
        · clear ih; rw [step_i_SystemValid_0]
          simp only [S_i_SystemValid_0, Tryd.f13, slimF, slimL, lpOf, codeOf, Option.getD_some, slim, loops, List.length_nil, Nat.add_zero, Nat.zero_add, slimO, slimG, List.map_cons, List.map_nil, List.getElem?_cons_zero, List.getElem?_cons_succ, Option.bind_some, Bool.false_eq_true, if_false, if_true, List.length_cons, List.replicate, List.cons_append, List.nil_append, List.append_nil, Nat.reduceAdd, Nat.reduceSub, List.getD_cons_zero, List.getD_cons_succ]
          simp -implicitDefEqProofs (maxSteps := 2000000) (disch := first | assumption | (refine Shut.mk ?_; kernel_rfl) | omega | (simp only [List.getElem?_cons_zero, List.getElem?_cons_succ]; done) | (simp only [List.length_append, List.length_cons, List.length_nil, List.length_set, List.length_replicate, List.length_map, List.length_take, List.length_drop] <;> omega) | (fail)) only [↓WD, ↓kAsg, ↓kRet, ↓reduceIte, ↓clash_free, ↓WDD, ↓kOpD_callv, WK, thawAt, evPick, aPut, leavesBody, outA, outS, outSs, idsA, idsL, mapA, calmAs, calmA, calmSl, calmPt, genOf, calmH, calmFrom, calmO, mapAs, maskB, isUndef, tidy, Int.reduceLT, Int.reduceLE, Int.reduceEq, Int.reduceNe, Int.reduceNeg, Int.reduceAdd, Int.reduceSub, Int.reduceMul, Int.reduceToNat, Nat.reduceAdd, Nat.reduceSub, aBuiltin, aAppend, aAppend0, aAppendV, isVec, bears, emptyArr, sliceAs, keeps, aBuildVec, aMakeVec, sliceCells, aBuildSlice, aIndexAddr, aLoad, runOf, ofCells, TY, LB, aLen, withInt, fillA, frzL, listWith, frz, frz0, deep, cellsA, setRun, okCell, List.replicate, notJunk, Nat.reduceMul, Nat.reduceLeDiff, Nat.reducePow, Nat.reduceBEq, boxIds, aResults, aResult, outAs, tupA, evNilCheck, aMove, MD, opds, evOp, asOper, one, two, evCallee, evAssign, aNew, evSlice, evField, evExtract, evFunc, pureOp, isCall, readOp, List.range', back, putBack, fuelR, closed, aStore, thawCells, place, pack, mapO, Nat.reduceEqDiff, Nat.reduceLT, maxNeed, i64_id, frzA, frzAs, memD, lentA, footC, ↓kc_i_isAlphabet, ↓kc_i_isState, ↓kc_i_has, ↓kc_i_compareEdges, ↓kl_i_isState, ↓kv_i_isState_1, LE, hc, b1, b2, e3]
        · rcases hb' with b3 | ⟨b3, hb'⟩
          · clear ih; rw [step_i_SystemValid_0]
            simp only [S_i_SystemValid_0, Tryd.f13, slimF, slimL, lpOf, codeOf, Option.getD_some, slim, loops, List.length_nil, Nat.add_zero, Nat.zero_add, slimO, slimG, List.map_cons, List.map_nil, List.getElem?_cons_zero, List.getElem?_cons_succ, Option.bind_some, Bool.false_eq_true, if_false, if_true, List.length_cons, List.replicate, List.cons_append, List.nil_append, List.append_nil, Nat.reduceAdd, Nat.reduceSub, List.getD_cons_zero, List.getD_cons_succ]
            simp -implicitDefEqProofs (maxSteps := 2000000) (disch := first | assumption | (refine Shut.mk ?_; kernel_rfl) | omega | (simp only [List.getElem?_cons_zero, List.getElem?_cons_succ]; done) | (simp only [List.length_append, List.length_cons, List.length_nil, List.length_set, List.length_replicate, List.length_map, List.length_take, List.length_drop] <;> omega) | (fail)) only [↓WD, ↓kAsg, ↓kRet, ↓reduceIte, ↓clash_free, ↓WDD, ↓kOpD_callv, WK, thawAt, evPick, aPut, leavesBody, outA, outS, outSs, idsA, idsL, mapA, calmAs, calmA, calmSl, calmPt, genOf, calmH, calmFrom, calmO, mapAs, maskB, isUndef, tidy, Int.reduceLT, Int.reduceLE, Int.reduceEq, Int.reduceNe, Int.reduceNeg, Int.reduceAdd, Int.reduceSub, Int.reduceMul, Int.reduceToNat, Nat.reduceAdd, Nat.reduceSub, aBuiltin, aAppend, aAppend0, aAppendV, isVec, bears, emptyArr, sliceAs, keeps, aBuildVec, aMakeVec, sliceCells, aBuildSlice, aIndexAddr, aLoad, runOf, ofCells, TY, LB, aLen, withInt, fillA, frzL, listWith, frz, frz0, deep, cellsA, setRun, okCell, List.replicate, notJunk, Nat.reduceMul, Nat.reduceLeDiff, Nat.reducePow, Nat.reduceBEq, boxIds, aResults, aResult, outAs, tupA, evNilCheck, aMove, MD, opds, evOp, asOper, one, two, evCallee, evAssign, aNew, evSlice, evField, evExtract, evFunc, pureOp, isCall, readOp, List.range', back, putBack, fuelR, closed, aStore, thawCells, place, pack, mapO, Nat.reduceEqDiff, Nat.reduceLT, maxNeed, i64_id, frzA, frzAs, memD, lentA, footC, ↓kc_i_isAlphabet, ↓kc_i_isState, ↓kc_i_has, ↓kc_i_compareEdges, ↓kl_i_isState, ↓kv_i_isState_1, LE, hc, b1, b2, b3, e3]
          · rcases hb' with b4 | ⟨b4, hb'⟩
            · clear ih; rw [step_i_SystemValid_0]
              simp only [S_i_SystemValid_0, Tryd.f13, slimF, slimL, lpOf, codeOf, Option.getD_some, slim, loops, List.length_nil, Nat.add_zero, Nat.zero_add, slimO, slimG, List.map_cons, List.map_nil, List.getElem?_cons_zero, List.getElem?_cons_succ, Option.bind_some, Bool.false_eq_true, if_false, if_true, List.length_cons, List.replicate, List.cons_append, List.nil_append, List.append_nil, Nat.reduceAdd, Nat.reduceSub, List.getD_cons_zero, List.getD_cons_succ]
              simp -implicitDefEqProofs (maxSteps := 2000000) (disch := first | assumption | (refine Shut.mk ?_; kernel_rfl) | omega | (simp only [List.getElem?_cons_zero, List.getElem?_cons_succ]; done) | (simp only [List.length_append, List.length_cons, List.length_nil, List.length_set, List.length_replicate, List.length_map, List.length_take, List.length_drop] <;> omega) | (fail)) only [↓WD, ↓kAsg, ↓kRet, ↓reduceIte, ↓clash_free, ↓WDD, ↓kOpD_callv, WK, thawAt, evPick, aPut, leavesBody, outA, outS, outSs, idsA, idsL, mapA, calmAs, calmA, calmSl, calmPt, genOf, calmH, calmFrom, calmO, mapAs, maskB, isUndef, tidy, Int.reduceLT, Int.reduceLE, Int.reduceEq, Int.reduceNe, Int.reduceNeg, Int.reduceAdd, Int.reduceSub, Int.reduceMul, Int.reduceToNat, Nat.reduceAdd, Nat.reduceSub, aBuiltin, aAppend, aAppend0, aAppendV, isVec, bears, emptyArr, sliceAs, keeps, aBuildVec, aMakeVec, sliceCells, aBuildSlice, aIndexAddr, aLoad, runOf, ofCells, TY, LB, aLen, withInt, fillA, frzL, listWith, frz, frz0, deep, cellsA, setRun, okCell, List.replicate, notJunk, Nat.reduceMul, Nat.reduceLeDiff, Nat.reducePow, Nat.reduceBEq, boxIds, aResults, aResult, outAs, tupA, evNilCheck, aMove, MD, opds, evOp, asOper, one, two, evCallee, evAssign, aNew, evSlice, evField, evExtract, evFunc, pureOp, isCall, readOp, List.range', back, putBack, fuelR, closed, aStore, thawCells, place, pack, mapO, Nat.reduceEqDiff, Nat.reduceLT, maxNeed, i64_id, frzA, frzAs, memD, lentA, footC, ↓kc_i_isAlphabet, ↓kc_i_isState, ↓kc_i_has, ↓kc_i_compareEdges, ↓kl_i_isState, ↓kv_i_isState_1, LE, hc, b1, b2, b3, b4, e3]
            · rcases hb' with b5 | ⟨b5, hb'⟩
              · clear ih; rw [step_i_SystemValid_0]
                simp only [S_i_SystemValid_0, Tryd.f13, slimF, slimL, lpOf, codeOf, Option.getD_some, slim, loops, List.length_nil, Nat.add_zero, Nat.zero_add, slimO, slimG, List.map_cons, List.map_nil, List.getElem?_cons_zero, List.getElem?_cons_succ, Option.bind_some, Bool.false_eq_true, if_false, if_true, List.length_cons, List.replicate, List.cons_append, List.nil_append, List.append_nil, Nat.reduceAdd, Nat.reduceSub, List.getD_cons_zero, List.getD_cons_succ]
                simp -implicitDefEqProofs (maxSteps := 2000000) (disch := first | assumption | (refine Shut.mk ?_; kernel_rfl) | omega | (simp only [List.getElem?_cons_zero, List.getElem?_cons_succ]; done) | (simp only [List.length_append, List.length_cons, List.length_nil, List.length_set, List.length_replicate, List.length_map, List.length_take, List.length_drop] <;> omega) | (fail)) only [↓WD, ↓kAsg, ↓kRet, ↓reduceIte, ↓clash_free, ↓WDD, ↓kOpD_callv, WK, thawAt, evPick, aPut, leavesBody, outA, outS, outSs, idsA, idsL, mapA, calmAs, calmA, calmSl, calmPt, genOf, calmH, calmFrom, calmO, mapAs, maskB, isUndef, tidy, Int.reduceLT, Int.reduceLE, Int.reduceEq, Int.reduceNe, Int.reduceNeg, Int.reduceAdd, Int.reduceSub, Int.reduceMul, Int.reduceToNat, Nat.reduceAdd, Nat.reduceSub, aBuiltin, aAppend, aAppend0, aAppendV, isVec, bears, emptyArr, sliceAs, keeps, aBuildVec, aMakeVec, sliceCells, aBuildSlice, aIndexAddr, aLoad, runOf, ofCells, TY, LB, aLen, withInt, fillA, frzL, listWith, frz, frz0, deep, cellsA, setRun, okCell, List.replicate, notJunk, Nat.reduceMul, Nat.reduceLeDiff, Nat.reducePow, Nat.reduceBEq, boxIds, aResults, aResult, outAs, tupA, evNilCheck, aMove, MD, opds, evOp, asOper, one, two, evCallee, evAssign, aNew, evSlice, evField, evExtract, evFunc, pureOp, isCall, readOp, List.range', back, putBack, fuelR, closed, aStore, thawCells, place, pack, mapO, Nat.reduceEqDiff, Nat.reduceLT, maxNeed, i64_id, frzA, frzAs, memD, lentA, footC, ↓kc_i_isAlphabet, ↓kc_i_isState, ↓kc_i_has, ↓kc_i_compareEdges, ↓kl_i_isState, ↓kv_i_isState_1, LE, hc, b1, b2, b3, b4, b5, e3]
              · rcases hb' with b6 | ⟨b6, hb'⟩
                · clear ih; rw [step_i_SystemValid_0]
                  simp only [S_i_SystemValid_0, Tryd.f13, slimF, slimL, lpOf, codeOf, Option.getD_some, slim, loops, List.length_nil, Nat.add_zero, Nat.zero_add, slimO, slimG, List.map_cons, List.map_nil, List.getElem?_cons_zero, List.getElem?_cons_succ, Option.bind_some, Bool.false_eq_true, if_false, if_true, List.length_cons, List.replicate, List.cons_append, List.nil_append, List.append_nil, Nat.reduceAdd, Nat.reduceSub, List.getD_cons_zero, List.getD_cons_succ]
                  simp -implicitDefEqProofs (maxSteps := 2000000) (disch := first | assumption | (refine Shut.mk ?_; kernel_rfl) | omega | (simp only [List.getElem?_cons_zero, List.getElem?_cons_succ]; done) | (simp only [List.length_append, List.length_cons, List.length_nil, List.length_set, List.length_replicate, List.length_map, List.length_take, List.length_drop] <;> omega) | (fail)) only [↓WD, ↓kAsg, ↓kRet, ↓reduceIte, ↓clash_free, ↓WDD, ↓kOpD_callv, WK, thawAt, evPick, aPut, leavesBody, outA, outS, outSs, idsA, idsL, mapA, calmAs, calmA, calmSl, calmPt, genOf, calmH, calmFrom, calmO, mapAs, maskB, isUndef, tidy, Int.reduceLT, Int.reduceLE, Int.reduceEq, Int.reduceNe, Int.reduceNeg, Int.reduceAdd, Int.reduceSub, Int.reduceMul, Int.reduceToNat, Nat.reduceAdd, Nat.reduceSub, aBuiltin, aAppend, aAppend0, aAppendV, isVec, bears, emptyArr, sliceAs, keeps, aBuildVec, aMakeVec, sliceCells, aBuildSlice, aIndexAddr, aLoad, runOf, ofCells, TY, LB, aLen, withInt, fillA, frzL, listWith, frz, frz0, deep, cellsA, setRun, okCell, List.replicate, notJunk, Nat.reduceMul, Nat.reduceLeDiff, Nat.reducePow, Nat.reduceBEq, boxIds, aResults, aResult, outAs, tupA, evNilCheck, aMove, MD, opds, evOp, asOper, one, two, evCallee, evAssign, aNew, evSlice, evField, evExtract, evFunc, pureOp, isCall, readOp, List.range', back, putBack, fuelR, closed, aStore, thawCells, place, pack, mapO, Nat.reduceEqDiff, Nat.reduceLT, maxNeed, i64_id, frzA, frzAs, memD, lentA, footC, ↓kc_i_isAlphabet, ↓kc_i_isState, ↓kc_i_has, ↓kc_i_compareEdges, ↓kl_i_isState, ↓kv_i_isState_1, LE, hc, b1, b2, b3, b4, b5, b6, e3]
                · rcases hb' with b7 | ⟨b7, hz', hb3⟩
                  · clear ih; rw [step_i_SystemValid_0]
                    simp only [S_i_SystemValid_0, Tryd.f13, slimF, slimL, lpOf, codeOf, Option.getD_some, slim, loops, List.length_nil, Nat.add_zero, Nat.zero_add, slimO, slimG, List.map_cons, List.map_nil, List.getElem?_cons_zero, List.getElem?_cons_succ, Option.bind_some, Bool.false_eq_true, if_false, if_true, List.length_cons, List.replicate, List.cons_append, List.nil_append, List.append_nil, Nat.reduceAdd, Nat.reduceSub, List.getD_cons_zero, List.getD_cons_succ]
                    simp -implicitDefEqProofs (maxSteps := 2000000) (disch := first | assumption | (refine Shut.mk ?_; kernel_rfl) | omega | (simp only [List.getElem?_cons_zero, List.getElem?_cons_succ]; done) | (simp only [List.length_append, List.length_cons, List.length_nil, List.length_set, List.length_replicate, List.length_map, List.length_take, List.length_drop] <;> omega) | (fail)) only [↓WD, ↓kAsg, ↓kRet, ↓reduceIte, ↓clash_free, ↓WDD, ↓kOpD_callv, WK, thawAt, evPick, aPut, leavesBody, outA, outS, outSs, idsA, idsL, mapA, calmAs, calmA, calmSl, calmPt, genOf, calmH, calmFrom, calmO, mapAs, maskB, isUndef, tidy, Int.reduceLT, Int.reduceLE, Int.reduceEq, Int.reduceNe, Int.reduceNeg, Int.reduceAdd, Int.reduceSub, Int.reduceMul, Int.reduceToNat, Nat.reduceAdd, Nat.reduceSub, aBuiltin, aAppend, aAppend0, aAppendV, isVec, bears, emptyArr, sliceAs, keeps, aBuildVec, aMakeVec, sliceCells, aBuildSlice, aIndexAddr, aLoad, runOf, ofCells, TY, LB, aLen, withInt, fillA, frzL, listWith, frz, frz0, deep, cellsA, setRun, okCell, List.replicate, notJunk, Nat.reduceMul, Nat.reduceLeDiff, Nat.reducePow, Nat.reduceBEq, boxIds, aResults, aResult, outAs, tupA, evNilCheck, aMove, MD, opds, evOp, asOper, one, two, evCallee, evAssign, aNew, evSlice, evField, evExtract, evFunc, pureOp, isCall, readOp, List.range', back, putBack, fuelR, closed, aStore, thawCells, place, pack, mapO, Nat.reduceEqDiff, Nat.reduceLT, maxNeed, i64_id, frzA, frzAs, memD, lentA, footC, ↓kc_i_isAlphabet, ↓kc_i_isState, ↓kc_i_has, ↓kc_i_compareEdges, ↓kl_i_isState, ↓kv_i_isState_1, LE, hc, b1, b2, b3, b4, b5, b6, b7, e3]
                  · have hz : 0 < i := by omega
                    have hk2 : (i - 1).toNat < l.length := by omega
                    rw [← e2] at hb3
                    clear hz' ih
                    rw [step_i_SystemValid_0]
                    simp only [S_i_SystemValid_0, Tryd.f13, slimF, slimL, lpOf, codeOf, Option.getD_some, slim, loops, List.length_nil, Nat.add_zero, Nat.zero_add, slimO, slimG, List.map_cons, List.map_nil, List.getElem?_cons_zero, List.getElem?_cons_succ, Option.bind_some, Bool.false_eq_true, if_false, if_true, List.length_cons, List.replicate, List.cons_append, List.nil_append, List.append_nil, Nat.reduceAdd, Nat.reduceSub, List.getD_cons_zero, List.getD_cons_succ]
                    simp -implicitDefEqProofs (maxSteps := 2000000) (disch := first | assumption | (refine Shut.mk ?_; kernel_rfl) | omega | (simp only [List.getElem?_cons_zero, List.getElem?_cons_succ]; done) | (simp only [List.length_append, List.length_cons, List.length_nil, List.length_set, List.length_replicate, List.length_map, List.length_take, List.length_drop] <;> omega) | (fail)) only [↓WD, ↓kAsg, ↓kRet, ↓reduceIte, ↓clash_free, ↓WDD, ↓kOpD_callv, WK, thawAt, evPick, aPut, leavesBody, outA, outS, outSs, idsA, idsL, mapA, calmAs, calmA, calmSl, calmPt, genOf, calmH, calmFrom, calmO, mapAs, maskB, isUndef, tidy, Int.reduceLT, Int.reduceLE, Int.reduceEq, Int.reduceNe, Int.reduceNeg, Int.reduceAdd, Int.reduceSub, Int.reduceMul, Int.reduceToNat, Nat.reduceAdd, Nat.reduceSub, aBuiltin, aAppend, aAppend0, aAppendV, isVec, bears, emptyArr, sliceAs, keeps, aBuildVec, aMakeVec, sliceCells, aBuildSlice, aIndexAddr, aLoad, runOf, ofCells, TY, LB, aLen, withInt, fillA, frzL, listWith, frz, frz0, deep, cellsA, setRun, okCell, List.replicate, notJunk, Nat.reduceMul, Nat.reduceLeDiff, Nat.reducePow, Nat.reduceBEq, boxIds, aResults, aResult, outAs, tupA, evNilCheck, aMove, MD, opds, evOp, asOper, one, two, evCallee, evAssign, aNew, evSlice, evField, evExtract, evFunc, pureOp, isCall, readOp, List.range', back, putBack, fuelR, closed, aStore, thawCells, place, pack, mapO, Nat.reduceEqDiff, Nat.reduceLT, maxNeed, i64_id, frzA, frzAs, memD, lentA, footC, ↓kc_i_isAlphabet, ↓kc_i_isState, ↓kc_i_has, ↓kc_i_compareEdges, ↓kl_i_isState, ↓kv_i_isState_1, LE, hc, hz, b1, b2, b3, b4, b5, b6, b7, hb3, e3]
    | false =>
      rw [seek_neg hb]
      obtain ⟨b1, b2, b3, b4, b5, b6, b7, hb2⟩ := good_cases hb
      clear hb
      by_cases hz : 0 < i
      · have hb4 := hb2 (by omega)
        have hk2 : (i - 1).toNat < l.length := by omega
        rw [← e2] at hb4
        clear hb2
        rw [step_i_SystemValid_0]
        simp only [S_i_SystemValid_0, Tryd.f13, slimF, slimL, lpOf, codeOf, Option.getD_some, slim, loops, List.length_nil, Nat.add_zero, Nat.zero_add, slimO, slimG, List.map_cons, List.map_nil, List.getElem?_cons_zero, List.getElem?_cons_succ, Option.bind_some, Bool.false_eq_true, if_false, if_true, List.length_cons, List.replicate, List.cons_append, List.nil_append, List.append_nil, Nat.reduceAdd, Nat.reduceSub, List.getD_cons_zero, List.getD_cons_succ]
        simp -implicitDefEqProofs (maxSteps := 2000000) (disch := first | assumption | (refine Shut.mk ?_; kernel_rfl) | omega | (simp only [List.getElem?_cons_zero, List.getElem?_cons_succ]; done) | (simp only [List.length_append, List.length_cons, List.length_nil, List.length_set, List.length_replicate, List.length_map, List.length_take, List.length_drop] <;> omega) | (fail)) only [↓WD, ↓kAsg, ↓kRet, ↓reduceIte, ↓clash_free, ↓WDD, ↓kOpD_callv, WK, thawAt, evPick, aPut, leavesBody, outA, outS, outSs, idsA, idsL, mapA, calmAs, calmA, calmSl, calmPt, genOf, calmH, calmFrom, calmO, mapAs, maskB, isUndef, tidy, Int.reduceLT, Int.reduceLE, Int.reduceEq, Int.reduceNe, Int.reduceNeg, Int.reduceAdd, Int.reduceSub, Int.reduceMul, Int.reduceToNat, Nat.reduceAdd, Nat.reduceSub, aBuiltin, aAppend, aAppend0, aAppendV, isVec, bears, emptyArr, sliceAs, keeps, aBuildVec, aMakeVec, sliceCells, aBuildSlice, aIndexAddr, aLoad, runOf, ofCells, TY, LB, aLen, withInt, fillA, frzL, listWith, frz, frz0, deep, cellsA, setRun, okCell, List.replicate, notJunk, Nat.reduceMul, Nat.reduceLeDiff, Nat.reducePow, Nat.reduceBEq, boxIds, aResults, aResult, outAs, tupA, evNilCheck, aMove, MD, opds, evOp, asOper, one, two, evCallee, evAssign, aNew, evSlice, evField, evExtract, evFunc, pureOp, isCall, readOp, List.range', back, putBack, fuelR, closed, aStore, thawCells, place, pack, mapO, Nat.reduceEqDiff, Nat.reduceLT, maxNeed, i64_id, frzA, frzAs, memD, lentA, footC, ↓kc_i_isAlphabet, ↓kc_i_isState, ↓kc_i_has, ↓kc_i_compareEdges, ↓kl_i_isState, ↓kv_i_isState_1, LE, hc, hz, b1, b2, b3, b4, b5, b6, b7, hb4, ↓ih, e1]
      · clear hb2
        rw [step_i_SystemValid_0]
        simp only [S_i_SystemValid_0, Tryd.f13, slimF, slimL, lpOf, codeOf, Option.getD_some, slim, loops, List.length_nil, Nat.add_zero, Nat.zero_add, slimO, slimG, List.map_cons, List.map_nil, List.getElem?_cons_zero, List.getElem?_cons_succ, Option.bind_some, Bool.false_eq_true, if_false, if_true, List.length_cons, List.replicate, List.cons_append, List.nil_append, List.append_nil, Nat.reduceAdd, Nat.reduceSub, List.getD_cons_zero, List.getD_cons_succ]
        simp -implicitDefEqProofs (maxSteps := 2000000) (disch := first | assumption | (refine Shut.mk ?_; kernel_rfl) | omega | (simp only [List.getElem?_cons_zero, List.getElem?_cons_succ]; done) | (simp only [List.length_append, List.length_cons, List.length_nil, List.length_set, List.length_replicate, List.length_map, List.length_take, List.length_drop] <;> omega) | (fail)) only [↓WD, ↓kAsg, ↓kRet, ↓reduceIte, ↓clash_free, ↓WDD, ↓kOpD_callv, WK, thawAt, evPick, aPut, leavesBody, outA, outS, outSs, idsA, idsL, mapA, calmAs, calmA, calmSl, calmPt, genOf, calmH, calmFrom, calmO, mapAs, maskB, isUndef, tidy, Int.reduceLT, Int.reduceLE, Int.reduceEq, Int.reduceNe, Int.reduceNeg, Int.reduceAdd, Int.reduceSub, Int.reduceMul, Int.reduceToNat, Nat.reduceAdd, Nat.reduceSub, aBuiltin, aAppend, aAppend0, aAppendV, isVec, bears, emptyArr, sliceAs, keeps, aBuildVec, aMakeVec, sliceCells, aBuildSlice, aIndexAddr, aLoad, runOf, ofCells, TY, LB, aLen, withInt, fillA, frzL, listWith, frz, frz0, deep, cellsA, setRun, okCell, List.replicate, notJunk, Nat.reduceMul, Nat.reduceLeDiff, Nat.reducePow, Nat.reduceBEq, boxIds, aResults, aResult, outAs, tupA, evNilCheck, aMove, MD, opds, evOp, asOper, one, two, evCallee, evAssign, aNew, evSlice, evField, evExtract, evFunc, pureOp, isCall, readOp, List.range', back, putBack, fuelR, closed, aStore, thawCells, place, pack, mapO, Nat.reduceEqDiff, Nat.reduceLT, maxNeed, i64_id, frzA, frzAs, memD, lentA, footC, ↓kc_i_isAlphabet, ↓kc_i_isState, ↓kc_i_has, ↓kc_i_compareEdges, ↓kl_i_isState, ↓kv_i_isState_1, LE, hc, hz, b1, b2, b3, b4, b5, b6, b7, ↓ih, e1]

theorem loop_i_SystemValid_top {R : Type} {L n m : Nat} (hL : 2 ^ 60 ≤ L) (hn : 5 ≤ n) {al st : Int} {l : List Edge} (hl : l.length ≤ 4294967296) {k : Exit → List A → H → Option R} (hm : l.length < m) :
    kLoop env (evCall env L n) L 0 [] (false :: true :: true :: false :: false :: false :: false :: false :: false :: false :: false :: false :: false :: false :: false :: false :: false :: false :: false :: false :: true :: true :: true :: false :: false :: false :: false :: false :: false :: false :: false :: false :: false :: false :: false :: false :: false :: false :: false :: false :: false :: false :: false :: false :: false :: false :: false :: false :: false :: false :: false :: false :: false :: false :: false :: false :: false :: false :: false :: false :: false :: false :: false :: false :: false :: false :: false :: false :: []) (lp_i_SystemValid 0) (true :: false :: false :: true :: true :: true :: true :: true :: true :: true :: true :: true :: true :: true :: true :: true :: true :: true :: true :: true :: false :: false :: false :: true :: true :: true :: true :: true :: true :: true :: true :: true :: true :: true :: true :: true :: true :: true :: true :: true :: true :: true :: true :: true :: true :: true :: true :: true :: true :: true :: true :: true :: true :: true :: true :: true :: true :: true :: true :: true :: true :: true :: true :: true :: true :: true :: true :: true :: []) m (.junk :: .ptr 0 0 0 :: .d (.bool false) :: .junk :: .junk :: .junk :: .junk :: .junk :: .junk :: .junk :: .junk :: .junk :: .junk :: .junk :: .junk :: .junk :: .junk :: .junk :: .junk :: .junk :: .d (.ivs l.length (edgesD l)) :: .d (.int .i64 (l.length)) :: .d (.int .i64 0) :: .junk :: .junk :: .junk :: .junk :: .junk :: .junk :: .junk :: .junk :: .junk :: .junk :: .junk :: .junk :: .junk :: .junk :: .junk :: .junk :: .junk :: .junk :: .junk :: .junk :: .junk :: .junk :: .junk :: .junk :: .junk :: .junk :: .junk :: .junk :: .junk :: .junk :: .junk :: .junk :: .junk :: .junk :: .junk :: .junk :: .junk :: .junk :: .junk :: .junk :: .junk :: .junk :: .junk :: .junk :: .junk :: []) [.box [.d (.int .i64 al), .d (.int .i64 st), .d (.ivs l.length (edgesD l))]] k
    = match seek (badAt al st l) l.length 0 with
      | none => k (.exit 0) (.junk :: .ptr 0 0 0 :: .d (.bool false) :: .junk :: .junk :: .junk :: .junk :: .junk :: .junk :: .junk :: .junk :: .junk :: .junk :: .junk :: .junk :: .junk :: .junk :: .junk :: .junk :: .junk :: .d (.ivs l.length (edgesD l)) :: .d (.int .i64 (l.length)) :: .d (.int .i64 (l.length)) :: .junk :: .junk :: .junk :: .junk :: .junk :: .junk :: .junk :: .junk :: .junk :: .junk :: .junk :: .junk :: .junk :: .junk :: .junk :: .junk :: .junk :: .junk :: .junk :: .junk :: .junk :: .junk :: .junk :: .junk :: .junk :: .junk :: .junk :: .junk :: .junk :: .junk :: .junk :: .junk :: .junk :: .junk :: .junk :: .junk :: .junk :: .junk :: .junk :: .junk :: .junk :: .junk :: .junk :: .junk :: .junk :: []) [.box [.d (.int .i64 al), .d (.int .i64 st), .d (.ivs l.length (edgesD l))]]
      | some r => k .ret (.junk :: .ptr 0 0 0 :: .d (.bool false) :: .junk :: .junk :: .junk :: .junk :: .junk :: .junk :: .junk :: .junk :: .junk :: .junk :: .junk :: .junk :: .junk :: .junk :: .junk :: .junk :: .junk :: .d (.ivs l.length (edgesD l)) :: .d (.int .i64 (l.length)) :: .d (.int .i64 r) :: .junk :: .junk :: .junk :: .junk :: .junk :: .junk :: .junk :: .junk :: .junk :: .junk :: .junk :: .junk :: .junk :: .junk :: .junk :: .junk :: .junk :: .junk :: .junk :: .junk :: .junk :: .junk :: .junk :: .junk :: .junk :: .junk :: .junk :: .junk :: .junk :: .junk :: .junk :: .junk :: .junk :: .junk :: .junk :: .junk :: .junk :: .junk :: .junk :: .junk :: .junk :: .junk :: .junk :: .junk :: .junk :: []) [.box [.d (.int .i64 al), .d (.int .i64 st), .d (.ivs l.length (edgesD l))]] :=
  loop_i_SystemValid hL hn hl l.length 0 m (by omega) (by omega) hm

theorem ev_i_SystemValid {L n : Nat} (hn : 6 ≤ n) (al st : Int) (l : List Edge) (hl : l.length ≤ 4294967296) (hL : 2 ^ 60 ≤ L) : evCall env L n 13 [.agg [.d (.int .i64 al), .d (.int .i64 st), .d (.ivs l.length (edgesD l))]] [] = some (.d (.bool (sysOK ⟨al, st, l⟩)), []) := by
  unfold sysOK
  simp only []
  cases ha : isAlpha al with
  | false =>
    obtain ⟨n, rfl⟩ : ∃ m, n = m + 1 := ⟨n - 1, by omega⟩
    rw [fn_i_SystemValid]
    simp only [S_i_SystemValid, Tryd.f13, slimF, slimL, lpOf, codeOf, Option.getD_some, slim, loops, List.length_nil, Nat.add_zero, Nat.zero_add, slimO, slimG, List.map_cons, List.map_nil, List.getElem?_cons_zero, List.getElem?_cons_succ, Option.bind_some, Bool.false_eq_true, if_false, if_true, List.length_cons, List.replicate, List.cons_append, List.nil_append, List.append_nil, Nat.reduceAdd, Nat.reduceSub, List.getD_cons_zero, List.getD_cons_succ]
    simp -implicitDefEqProofs (maxSteps := 2000000) (disch := first | assumption | (refine Shut.mk ?_; kernel_rfl) | omega | (simp only [List.getElem?_cons_zero, List.getElem?_cons_succ]; done) | (simp only [List.length_append, List.length_cons, List.length_nil, List.length_set, List.length_replicate, List.length_map, List.length_take, List.length_drop] <;> omega) | (fail)) only [↓WD, ↓kAsg, ↓kRet, ↓reduceIte, ↓clash_free, ↓WDD, ↓kOpD_callv, WK, thawAt, evPick, aPut, leavesBody, outA, outS, outSs, idsA, idsL, mapA, calmAs, calmA, calmSl, calmPt, genOf, calmH, calmFrom, calmO, mapAs, maskB, isUndef, tidy, Int.reduceLT, Int.reduceLE, Int.reduceEq, Int.reduceNe, Int.reduceNeg, Int.reduceAdd, Int.reduceSub, Int.reduceMul, Int.reduceToNat, Nat.reduceAdd, Nat.reduceSub, aBuiltin, aAppend, aAppend0, aAppendV, isVec, bears, emptyArr, sliceAs, keeps, aBuildVec, aMakeVec, sliceCells, aBuildSlice, aIndexAddr, aLoad, runOf, ofCells, TY, LB, aLen, withInt, fillA, frzL, listWith, frz, frz0, deep, cellsA, setRun, okCell, List.replicate, notJunk, Nat.reduceMul, Nat.reduceLeDiff, Nat.reducePow, Nat.reduceBEq, boxIds, aResults, aResult, outAs, tupA, evNilCheck, aMove, MD, opds, evOp, asOper, one, two, evCallee, evAssign, aNew, evSlice, evField, evExtract, evFunc, pureOp, isCall, readOp, List.range', back, putBack, fuelR, closed, aStore, thawCells, place, pack, mapO, Nat.reduceEqDiff, Nat.reduceLT, maxNeed, i64_id, frzA, frzAs, memD, lentA, footC, ↓kc_i_isAlphabet, ↓kc_i_isState, ↓kc_i_has, ↓kc_i_compareEdges, ↓kl_i_isState, ↓kv_i_isState_1, ↓loop_i_SystemValid, ↓loop_i_SystemValid_top, ha, Bool.false_and]
  | true =>
    by_cases h1 : st < 1
    · have e1 : decide (1 ≤ st) = false := by simp; omega
      obtain ⟨n, rfl⟩ : ∃ m, n = m + 1 := ⟨n - 1, by omega⟩
      rw [fn_i_SystemValid]
      simp only [S_i_SystemValid, Tryd.f13, slimF, slimL, lpOf, codeOf, Option.getD_some, slim, loops, List.length_nil, Nat.add_zero, Nat.zero_add, slimO, slimG, List.map_cons, List.map_nil, List.getElem?_cons_zero, List.getElem?_cons_succ, Option.bind_some, Bool.false_eq_true, if_false, if_true, List.length_cons, List.replicate, List.cons_append, List.nil_append, List.append_nil, Nat.reduceAdd, Nat.reduceSub, List.getD_cons_zero, List.getD_cons_succ]
      simp -implicitDefEqProofs (maxSteps := 2000000) (disch := first | assumption | (refine Shut.mk ?_; kernel_rfl) | omega | (simp only [List.getElem?_cons_zero, List.getElem?_cons_succ]; done) | (simp only [List.length_append, List.length_cons, List.length_nil, List.length_set, List.length_replicate, List.length_map, List.length_take, List.length_drop] <;> omega) | (fail)) only [↓WD, ↓kAsg, ↓kRet, ↓reduceIte, ↓clash_free, ↓WDD, ↓kOpD_callv, WK, thawAt, evPick, aPut, leavesBody, outA, outS, outSs, idsA, idsL, mapA, calmAs, calmA, calmSl, calmPt, genOf, calmH, calmFrom, calmO, mapAs, maskB, isUndef, tidy, Int.reduceLT, Int.reduceLE, Int.reduceEq, Int.reduceNe, Int.reduceNeg, Int.reduceAdd, Int.reduceSub, Int.reduceMul, Int.reduceToNat, Nat.reduceAdd, Nat.reduceSub, aBuiltin, aAppend, aAppend0, aAppendV, isVec, bears, emptyArr, sliceAs, keeps, aBuildVec, aMakeVec, sliceCells, aBuildSlice, aIndexAddr, aLoad, runOf, ofCells, TY, LB, aLen, withInt, fillA, frzL, listWith, frz, frz0, deep, cellsA, setRun, okCell, List.replicate, notJunk, Nat.reduceMul, Nat.reduceLeDiff, Nat.reducePow, Nat.reduceBEq, boxIds, aResults, aResult, outAs, tupA, evNilCheck, aMove, MD, opds, evOp, asOper, one, two, evCallee, evAssign, aNew, evSlice, evField, evExtract, evFunc, pureOp, isCall, readOp, List.range', back, putBack, fuelR, closed, aStore, thawCells, place, pack, mapO, Nat.reduceEqDiff, Nat.reduceLT, maxNeed, i64_id, frzA, frzAs, memD, lentA, footC, ↓kc_i_isAlphabet, ↓kc_i_isState, ↓kc_i_has, ↓kc_i_compareEdges, ↓kl_i_isState, ↓kv_i_isState_1, ↓loop_i_SystemValid, ↓loop_i_SystemValid_top, ha, h1, e1, Bool.false_and, Bool.and_false]
    · by_cases h2 : 16 < st
      · have e1 : decide (st ≤ 16) = false := by simp; omega
        obtain ⟨n, rfl⟩ : ∃ m, n = m + 1 := ⟨n - 1, by omega⟩
        rw [fn_i_SystemValid]
        simp only [S_i_SystemValid, Tryd.f13, slimF, slimL, lpOf, codeOf, Option.getD_some, slim, loops, List.length_nil, Nat.add_zero, Nat.zero_add, slimO, slimG, List.map_cons, List.map_nil, List.getElem?_cons_zero, List.getElem?_cons_succ, Option.bind_some, Bool.false_eq_true, if_false, if_true, List.length_cons, List.replicate, List.cons_append, List.nil_append, List.append_nil, Nat.reduceAdd, Nat.reduceSub, List.getD_cons_zero, List.getD_cons_succ]
        simp -implicitDefEqProofs (maxSteps := 2000000) (disch := first | assumption | (refine Shut.mk ?_; kernel_rfl) | omega | (simp only [List.getElem?_cons_zero, List.getElem?_cons_succ]; done) | (simp only [List.length_append, List.length_cons, List.length_nil, List.length_set, List.length_replicate, List.length_map, List.length_take, List.length_drop] <;> omega) | (fail)) only [↓WD, ↓kAsg, ↓kRet, ↓reduceIte, ↓clash_free, ↓WDD, ↓kOpD_callv, WK, thawAt, evPick, aPut, leavesBody, outA, outS, outSs, idsA, idsL, mapA, calmAs, calmA, calmSl, calmPt, genOf, calmH, calmFrom, calmO, mapAs, maskB, isUndef, tidy, Int.reduceLT, Int.reduceLE, Int.reduceEq, Int.reduceNe, Int.reduceNeg, Int.reduceAdd, Int.reduceSub, Int.reduceMul, Int.reduceToNat, Nat.reduceAdd, Nat.reduceSub, aBuiltin, aAppend, aAppend0, aAppendV, isVec, bears, emptyArr, sliceAs, keeps, aBuildVec, aMakeVec, sliceCells, aBuildSlice, aIndexAddr, aLoad, runOf, ofCells, TY, LB, aLen, withInt, fillA, frzL, listWith, frz, frz0, deep, cellsA, setRun, okCell, List.replicate, notJunk, Nat.reduceMul, Nat.reduceLeDiff, Nat.reducePow, Nat.reduceBEq, boxIds, aResults, aResult, outAs, tupA, evNilCheck, aMove, MD, opds, evOp, asOper, one, two, evCallee, evAssign, aNew, evSlice, evField, evExtract, evFunc, pureOp, isCall, readOp, List.range', back, putBack, fuelR, closed, aStore, thawCells, place, pack, mapO, Nat.reduceEqDiff, Nat.reduceLT, maxNeed, i64_id, frzA, frzAs, memD, lentA, footC, ↓kc_i_isAlphabet, ↓kc_i_isState, ↓kc_i_has, ↓kc_i_compareEdges, ↓kl_i_isState, ↓kv_i_isState_1, ↓loop_i_SystemValid, ↓loop_i_SystemValid_top, ha, h1, h2, e1, Bool.false_and, Bool.and_false]
      · have e1 : decide (1 ≤ st) = true := by simp; omega
        have e2 : decide (st ≤ 16) = true := by simp; omega
        cases hs : seek (badAt al st l) l.length 0 with
        | none =>
          obtain ⟨n, rfl⟩ : ∃ m, n = m + 1 := ⟨n - 1, by omega⟩
          rw [fn_i_SystemValid]
          simp only [S_i_SystemValid, Tryd.f13, slimF, slimL, lpOf, codeOf, Option.getD_some, slim, loops, List.length_nil, Nat.add_zero, Nat.zero_add, slimO, slimG, List.map_cons, List.map_nil, List.getElem?_cons_zero, List.getElem?_cons_succ, Option.bind_some, Bool.false_eq_true, if_false, if_true, List.length_cons, List.replicate, List.cons_append, List.nil_append, List.append_nil, Nat.reduceAdd, Nat.reduceSub, List.getD_cons_zero, List.getD_cons_succ]
          simp -implicitDefEqProofs (maxSteps := 2000000) (disch := first | assumption | (refine Shut.mk ?_; kernel_rfl) | omega | (simp only [List.getElem?_cons_zero, List.getElem?_cons_succ]; done) | (simp only [List.length_append, List.length_cons, List.length_nil, List.length_set, List.length_replicate, List.length_map, List.length_take, List.length_drop] <;> omega) | (fail)) only [↓WD, ↓kAsg, ↓kRet, ↓reduceIte, ↓clash_free, ↓WDD, ↓kOpD_callv, WK, thawAt, evPick, aPut, leavesBody, outA, outS, outSs, idsA, idsL, mapA, calmAs, calmA, calmSl, calmPt, genOf, calmH, calmFrom, calmO, mapAs, maskB, isUndef, tidy, Int.reduceLT, Int.reduceLE, Int.reduceEq, Int.reduceNe, Int.reduceNeg, Int.reduceAdd, Int.reduceSub, Int.reduceMul, Int.reduceToNat, Nat.reduceAdd, Nat.reduceSub, aBuiltin, aAppend, aAppend0, aAppendV, isVec, bears, emptyArr, sliceAs, keeps, aBuildVec, aMakeVec, sliceCells, aBuildSlice, aIndexAddr, aLoad, runOf, ofCells, TY, LB, aLen, withInt, fillA, frzL, listWith, frz, frz0, deep, cellsA, setRun, okCell, List.replicate, notJunk, Nat.reduceMul, Nat.reduceLeDiff, Nat.reducePow, Nat.reduceBEq, boxIds, aResults, aResult, outAs, tupA, evNilCheck, aMove, MD, opds, evOp, asOper, one, two, evCallee, evAssign, aNew, evSlice, evField, evExtract, evFunc, pureOp, isCall, readOp, List.range', back, putBack, fuelR, closed, aStore, thawCells, place, pack, mapO, Nat.reduceEqDiff, Nat.reduceLT, maxNeed, i64_id, frzA, frzAs, memD, lentA, footC, ↓kc_i_isAlphabet, ↓kc_i_isState, ↓kc_i_has, ↓kc_i_compareEdges, ↓kl_i_isState, ↓kv_i_isState_1, ↓loop_i_SystemValid, ↓loop_i_SystemValid_top, ha, h1, h2, e1, e2, hs]
        | some r =>
          obtain ⟨n, rfl⟩ : ∃ m, n = m + 1 := ⟨n - 1, by omega⟩
          rw [fn_i_SystemValid]
          simp only [S_i_SystemValid, Tryd.f13, slimF, slimL, lpOf, codeOf, Option.getD_some, slim, loops, List.length_nil, Nat.add_zero, Nat.zero_add, slimO, slimG, List.map_cons, List.map_nil, List.getElem?_cons_zero, List.getElem?_cons_succ, Option.bind_some, Bool.false_eq_true, if_false, if_true, List.length_cons, List.replicate, List.cons_append, List.nil_append, List.append_nil, Nat.reduceAdd, Nat.reduceSub, List.getD_cons_zero, List.getD_cons_succ]
          simp -implicitDefEqProofs (maxSteps := 2000000) (disch := first | assumption | (refine Shut.mk ?_; kernel_rfl) | omega | (simp only [List.getElem?_cons_zero, List.getElem?_cons_succ]; done) | (simp only [List.length_append, List.length_cons, List.length_nil, List.length_set, List.length_replicate, List.length_map, List.length_take, List.length_drop] <;> omega) | (fail)) only [↓WD, ↓kAsg, ↓kRet, ↓reduceIte, ↓clash_free, ↓WDD, ↓kOpD_callv, WK, thawAt, evPick, aPut, leavesBody, outA, outS, outSs, idsA, idsL, mapA, calmAs, calmA, calmSl, calmPt, genOf, calmH, calmFrom, calmO, mapAs, maskB, isUndef, tidy, Int.reduceLT, Int.reduceLE, Int.reduceEq, Int.reduceNe, Int.reduceNeg, Int.reduceAdd, Int.reduceSub, Int.reduceMul, Int.reduceToNat, Nat.reduceAdd, Nat.reduceSub, aBuiltin, aAppend, aAppend0, aAppendV, isVec, bears, emptyArr, sliceAs, keeps, aBuildVec, aMakeVec, sliceCells, aBuildSlice, aIndexAddr, aLoad, runOf, ofCells, TY, LB, aLen, withInt, fillA, frzL, listWith, frz, frz0, deep, cellsA, setRun, okCell, List.replicate, notJunk, Nat.reduceMul, Nat.reduceLeDiff, Nat.reducePow, Nat.reduceBEq, boxIds, aResults, aResult, outAs, tupA, evNilCheck, aMove, MD, opds, evOp, asOper, one, two, evCallee, evAssign, aNew, evSlice, evField, evExtract, evFunc, pureOp, isCall, readOp, List.range', back, putBack, fuelR, closed, aStore, thawCells, place, pack, mapO, Nat.reduceEqDiff, Nat.reduceLT, maxNeed, i64_id, frzA, frzAs, memD, lentA, footC, ↓kc_i_isAlphabet, ↓kc_i_isState, ↓kc_i_has, ↓kc_i_compareEdges, ↓kl_i_isState, ↓kv_i_isState_1, ↓loop_i_SystemValid, ↓loop_i_SystemValid_top, ha, h1, h2, e1, e2, hs, Bool.and_false]
theorem kc_i_SystemValid {R : Type} {L n : Nat} {hq : H} {k : A → H → Option R} (hn : 6 ≤ n) (al st : Int) (l : List Edge) (hl : l.length ≤ 4294967296) (hL : 2 ^ 60 ≤ L) : kCall env (evCall env L n) hq 13 [.agg [.d (.int .i64 al), .d (.int .i64 st), .d (.ivs l.length (edgesD l))]] k = k (.d (.bool (sysOK ⟨al, st, l⟩))) hq :=
  kCall_still rfl (ev_i_SystemValid hn al st l hl hL) rfl (.inl rfl)
theorem kl_i_SystemValid {R : Type} {L n : Nat} {k : A → Option R} (hn : 6 ≤ n) (al st : Int) (l : List Edge) (hl : l.length ≤ 4294967296) (hL : 2 ^ 60 ≤ L) : kLent (evCall env L n) 13 [.agg [.d (.int .i64 al), .d (.int .i64 st), .d (.ivs l.length (edgesD l))]] k = k (.d (.bool (sysOK ⟨al, st, l⟩))) :=
  kLent_ev (ev_i_SystemValid hn al st l hl hL) rfl
theorem kv_i_SystemValid_1 {R : Type} {L n : Nat} {hq : H} {k : A → H → Option R} {id0 g0 o0 len0 : Nat} {al st : Int} : kCall env (evCall env L n) hq 13 [.agg [.d (.int .i64 al), .d (.int .i64 st), .sl id0 g0 o0 len0]] k = match box (lentA hq [.agg [.d (.int .i64 al), .d (.int .i64 st), .sl id0 g0 o0 len0]]) with
    | .mk (some fs) => kLent (evCall env L n) 13 fs fun r => k r hq
    | _ => none := kCall_lent mode_i_SystemValid

end Ev
end Go.Proofs.YtojaohcpgelhmaaDoor
end

/-!
  Searching for an edge, dropping it.
-/
section
set_option linter.unusedSimpArgs false
set_option linter.unusedVariables false
set_option maxRecDepth 8000
set_option pp.maxSteps 6000
set_option maxHeartbeats 4000000
namespace Go.Proofs.YtojaohcpgelhmaaDoor
namespace Ev

/-! ### copies, cuts -/

/-- A system that is handed back, or none. -/
def oS : Option Sys → Sys
  | none => ⟨0, 0, []⟩
  | some s => s
theorem oS_some {s : Sys} : oS (some s) = s := rfl
theorem oS_none : oS none = ⟨0, 0, []⟩ := rfl
end Ev
end Go.Proofs.YtojaohcpgelhmaaDoor
end

/-!
  What the reference says of dropping an edge; both are the same.
-/
section
set_option linter.unusedSimpArgs false
set_option linter.unusedVariables false
set_option maxRecDepth 8000
set_option pp.maxSteps 6000
set_option maxHeartbeats 4000000
namespace Go.Proofs.YtojaohcpgelhmaaDoor
namespace Ev

/-- A call with frozen arguments, one of which is a slice of data. -/
theorem kCall_frz1 {R : Type} {E : Env} {call : CallF} {h : H} {f : FuncId} {args fs : List A} {r : A} {k : A → H → Option R} {id e g : Nat} {cs : List D} (hi : h[id]? = some (.arr cs e g)) (hid : idsL args = [id]) (hm : (E.hint f).mode = 2) (hr : idsA r = []) (hf : frzAs [.arr cs e g] (mapAs (place [id]) args) = some (fs, [.ice cs e g])) (hc : call f fs [] = some (r, [])) :
    kCall E call h f args k = k r (h.set id (.ice cs e g)) := by
  have hre : reach fuelR h [id] [] = [id] := by
    have e1 : reach fuelR h [id] [] = match h[id]? with
      | some (.box cs) => reach (fuelR - 1) h ([] ++ idsL cs) ([] ++ [id])
      | some (.vec cs _ _) => reach (fuelR - 1) h ([] ++ idsL cs) ([] ++ [id])
      | some .void => reach (fuelR - 1) h [] []
      | some _ => reach (fuelR - 1) h [] ([] ++ [id])
      | none => reach (fuelR - 1) h [] [] := rfl
    rw [e1, hi]; rfl
  have hpk : pack h [id] = [.arr cs e g] := by
    simp only [pack, List.map_cons, List.map_nil, List.getD_eq_getElem?_getD, hi]; rfl
  unfold kCall
  rw [hid, hre, hpk]
  have hc : aCall call E.hint [.arr cs e g] f (mapAs (place [id]) args) = some (r, [.ice cs e g]) := by
    unfold aCall; rw [hm]
    simp only [hf, hc]
  rw [hc]
  have hcl : closed h [id] [id] = true := by
    simp only [closed, List.all_cons, List.all_nil, hi]; simp
  simp only [List.length_cons, List.length_nil, Nat.le_refl, hcl, and_self, if_true, mapA_none r hr]
  simp only [putBack, mapO, List.map_nil, List.append_nil]

theorem frz_sys {al st : Int} {l : List Edge} {id : Nat} {xs : List A} (hx : xs.all still = true) : frzAs [.arr (edgesD l) 3 0] (mapAs (place [id]) (.agg [.d (.int .i64 al), .d (.int .i64 st), .sl id 0 0 l.length] :: xs)) = some (.agg [.d (.int .i64 al), .d (.int .i64 st), .d (.ivs l.length (edgesD l))] :: xs, [.ice (edgesD l) 3 0]) := by
  have h1 : 0 + l.length * 3 ≤ (edgesD l).length := by rw [edgesD_length]; omega
  have h2 : mapAs (place [id]) (.agg [.d (.int .i64 al), .d (.int .i64 st), .sl id 0 0 l.length] :: xs) = .agg [.d (.int .i64 al), .d (.int .i64 st), .sl 0 0 0 l.length] :: xs := by
    simp [mapAs, mapA, place, mapAs_none _ (stills_ids hx)]
  have h3 : frzA [.arr (edgesD l) 3 0] (.agg [.d (.int .i64 al), .d (.int .i64 st), .sl 0 0 0 l.length]) = some (.agg [.d (.int .i64 al), .d (.int .i64 st), .d (.ivs l.length (edgesD l))], [.ice (edgesD l) 3 0]) := by
    simp only [frzA, frzL, listWith, frz, deep, frz0, List.getElem?_cons_zero, true_and, h1, if_true, List.drop_zero, edges_take (Nat.le_refl _), List.set_cons_zero, List.map_cons, List.map_nil]
  rw [h2]
  simp only [frzAs, h3, frzAs_still hx]

end Ev
end Go.Proofs.YtojaohcpgelhmaaDoor
end
