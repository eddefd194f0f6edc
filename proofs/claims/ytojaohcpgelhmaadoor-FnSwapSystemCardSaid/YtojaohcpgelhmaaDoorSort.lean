/-
  Edges in order: sorting at once, and one by one; the reference's sorting; systems with exchanged letters.
-/
import Derived.Test.YtojaohcpgelhmaaDoorDropS
import Derived.Test.YtojaohcpgelhmaaDoorRead
set_option linter.unusedSimpArgs false
set_option linter.unusedVariables false
set_option maxRecDepth 8000
set_option pp.maxSteps 6000
set_option maxHeartbeats 4000000
namespace Go.Proofs.YtojaohcpgelhmaaDoor
namespace Ev

def t3 (e : Edge) : Int × Int × Int := (e.fr, e.lt, e.to)
def e3 (x : Int × Int × Int) : Edge := ⟨x.1, x.2.1, x.2.2⟩
def leE (a b : Edge) : Bool := !beforeE b a
def sortE (l : List Edge) : List Edge := l.mergeSort leE

theorem le3_leE (a b : Edge) : le3 (t3 a) (t3 b) = leE a b := by
  unfold le3 leE
  rw [← cmpE_lt]
  rfl

theorem tripD_edges (l : List Edge) : tripD (l.map t3) = edgesD l := by
  induction l with
  | nil => rfl
  | cons e l ih => simp only [List.map_cons, tripD, t3, ih, edgesD_cons]

theorem trip_edges (l : List Edge) : trip (edgesD l) = some (l.map t3) := by
  induction l with
  | nil => rfl
  | cons e l ih => simp only [edgesD_cons, trip, ih, Option.map_some, List.map_cons, t3]

theorem sort_edges (l : List Edge) : tripD ((l.map t3).mergeSort le3) = edgesD (sortE l) := by
  rw [← tripD_edges, sortE, List.map_mergeSort (s := le3) fun a _ b _ => (le3_leE a b).symm]

theorem leE_trans (a b c : Edge) (h1 : leE a b = true) (h2 : leE b c = true) : leE a c = true := by
  unfold leE at *
  simp only [Bool.not_eq_true'] at *
  cases h : beforeE c a with
  | false => rfl
  | true =>
    cases h3 : beforeE a b with
    | true => have := beforeE_trans h h3; rw [this] at h2; cases h2
    | false =>
      have e := beforeE_total h1 h3
      subst e; rw [h] at h2; cases h2
theorem leE_total (a b : Edge) : (leE a b || leE b a) = true := by
  unfold leE
  cases h1 : beforeE b a with
  | false => rfl
  | true => rw [beforeE_asymm h1]; rfl

theorem sortE_perm (l : List Edge) : (sortE l).Perm l := List.mergeSort_perm l leE
theorem sortE_sorted (l : List Edge) : (sortE l).Pairwise fun a b => leE a b = true := List.pairwise_mergeSort leE_trans leE_total l
theorem sortE_len (l : List Edge) : (sortE l).length = l.length := (sortE_perm l).length_eq

theorem sorted_unique {l m : List Edge} (h1 : l.Pairwise fun a b => leE a b = true) (h2 : m.Pairwise fun a b => leE a b = true) (hp : l.Perm m) : l = m :=
  hp.eq_of_pairwise (fun a b _ _ h3 h4 => by
    unfold leE at h3 h4
    simp only [Bool.not_eq_true'] at h3 h4
    exact beforeE_total h4 h3) h1 h2

/-- How many edges in front come before an edge. -/
def posE (e : Edge) : List Edge → Nat
  | [] => 0
  | f :: l => if beforeE f e = true then posE e l + 1 else 0

def insE (e : Edge) (l : List Edge) : List Edge := l.take (posE e l) ++ e :: l.drop (posE e l)

theorem posE_le (e : Edge) : ∀ l, posE e l ≤ l.length
  | [] => Nat.le_refl _
  | f :: l => by
    simp only [posE, List.length_cons]
    have := posE_le e l
    split <;> omega

theorem posE_before (e : Edge) : ∀ (l : List Edge) (k : Nat), k < posE e l → beforeE (l.getD k default) e = true
  | [], k, h => by simp [posE] at h
  | f :: l, k, h => by
    simp only [posE] at h
    split at h
    · rename_i hf
      cases k with
      | zero => simpa using hf
      | succ k => simpa using posE_before e l k (by omega)
    · omega

theorem posE_at (e : Edge) : ∀ (l : List Edge), posE e l < l.length → beforeE (l.getD (posE e l) default) e = false
  | [], h => by simp at h
  | f :: l, h => by
    simp only [posE] at h ⊢
    by_cases hf : beforeE f e = true
    · rw [if_pos hf] at h ⊢
      simp only [List.getD_cons_succ]
      exact posE_at e l (by simpa using h)
    · rw [if_neg hf]
      simpa using hf

theorem insE_len (e : Edge) (l : List Edge) : (insE e l).length = l.length + 1 := by
  have := posE_le e l
  simp only [insE, List.length_append, List.length_take, List.length_cons, List.length_drop]; omega

theorem insE_perm (e : Edge) (l : List Edge) : (insE e l).Perm (e :: l) := by
  unfold insE
  refine (List.perm_middle).trans ?_
  rw [List.take_append_drop]

theorem insE_cons (e f : Edge) (l : List Edge) : insE e (f :: l) = if beforeE f e = true then f :: insE e l else e :: f :: l := by
  unfold insE
  simp only [posE]
  split <;> rfl

theorem insE_sorted (e : Edge) : ∀ l : List Edge, (l.Pairwise fun a b => leE a b = true) → (insE e l).Pairwise fun a b => leE a b = true
  | [], _ => by simp [insE, posE]
  | f :: l, h => by
    rw [insE_cons]
    obtain ⟨h1, h2⟩ := List.pairwise_cons.1 h
    by_cases hf : beforeE f e = true
    · rw [if_pos hf]
      refine List.Pairwise.cons ?_ (insE_sorted e l h2)
      intro x hx
      rcases List.mem_cons.1 ((insE_perm e l).mem_iff.1 hx) with rfl | hx
      · unfold leE; rw [beforeE_asymm hf]; rfl
      · exact h1 x hx
    · rw [if_neg hf]
      have hf' : leE e f = true := by unfold leE; simpa using hf
      refine List.Pairwise.cons ?_ h
      intro x hx
      rcases List.mem_cons.1 hx with rfl | hx
      · exact hf'
      · exact leE_trans _ _ _ hf' (h1 x hx)

/-- One by one. -/
def insAll (l : List Edge) (o : List Edge) : List Edge := l.foldl (fun o e => insE e o) o

theorem insAll_sort : ∀ (l o : List Edge), (o.Pairwise fun a b => leE a b = true) → ((insAll l o).Pairwise fun a b => leE a b = true) ∧ (insAll l o).Perm (l ++ o)
  | [], o, h => ⟨h, .refl _⟩
  | e :: l, o, h => by
    obtain ⟨h1, h2⟩ := insAll_sort l (insE e o) (insE_sorted e o h)
    refine ⟨h1, h2.trans ?_⟩
    refine ((insE_perm e o).append_left l).trans ?_
    exact List.perm_middle

theorem insAll_eq (l : List Edge) : insAll l [] = sortE l := by
  obtain ⟨h1, h2⟩ := insAll_sort l [] List.Pairwise.nil
  rw [List.append_nil] at h2
  exact sorted_unique h1 (sortE_sorted l) (h2.trans (sortE_perm l).symm)

/-! ### the reference's sorting -/

theorem loop_s_l17Sorted_1 {R : Type} {L n : Nat} (hn : 2 ≤ n) {l o : List Edge} (hl : l.length ≤ 4294967296) (ho : o.length ≤ 4294967296) {i : Int} (hi0 : 0 ≤ i) (hi1 : i < l.length) {k : Exit → List A → H → Option R} : ∀ (j : Nat) (x : Int) (m : Nat) (h0 : 0 ≤ x) (hx : x + j = posE (l.getD i.toNat default) o) (hm : j < m),
    kLoop env (evCall env L n) L 0 [] (true :: false :: true :: true :: true :: true :: false :: false :: false :: false :: false :: false :: false :: false :: false :: false :: false :: false :: false :: false :: false :: false :: false :: false :: false :: false :: false :: false :: false :: false :: false :: false :: false :: false :: false :: false :: false :: false :: false :: false :: false :: false :: false :: false :: false :: false :: false :: false :: []) (lp_s_l17Sorted 1) (false :: true :: false :: false :: false :: false :: true :: true :: true :: true :: true :: true :: true :: true :: true :: true :: true :: true :: true :: true :: true :: true :: true :: true :: true :: true :: true :: true :: true :: true :: true :: true :: true :: true :: true :: true :: true :: true :: true :: true :: true :: true :: true :: true :: true :: true :: true :: true :: []) m (.d (.ivs l.length (edgesD l)) :: .junk :: .d .nils :: .sl 0 0 0 o.length :: .d (.int .i64 i) :: .d (.int .i64 x) :: .junk :: .junk :: .junk :: .junk :: .junk :: .junk :: .junk :: .junk :: .junk :: .junk :: .junk :: .junk :: .junk :: .junk :: .junk :: .junk :: .junk :: .junk :: .junk :: .junk :: .junk :: .junk :: .junk :: .junk :: .junk :: .junk :: .junk :: .junk :: .junk :: .junk :: .junk :: .junk :: .junk :: .junk :: .junk :: .junk :: .junk :: .junk :: .junk :: .junk :: .junk :: .junk :: []) [.arr (edgesD o) 3 0] k
    = k (.exit 2) (.d (.ivs l.length (edgesD l)) :: .junk :: .d .nils :: .sl 0 0 0 o.length :: .d (.int .i64 i) :: .d (.int .i64 ((posE (l.getD i.toNat default) o : Nat))) :: .junk :: .junk :: .junk :: .junk :: .junk :: .junk :: .junk :: .junk :: .junk :: .junk :: .junk :: .junk :: .junk :: .junk :: .junk :: .junk :: .junk :: .junk :: .junk :: .junk :: .junk :: .junk :: .junk :: .junk :: .junk :: .junk :: .junk :: .junk :: .junk :: .junk :: .junk :: .junk :: .junk :: .junk :: .junk :: .junk :: .junk :: .junk :: .junk :: .junk :: .junk :: .junk :: []) [.arr (edgesD o) 3 0] := by
  intro j
  have hple := posE_le (l.getD i.toNat default) o
  have hk1 : i.toNat < l.length := by omega
  induction j with
  | zero =>
    intro x m h0 hx hm
    obtain ⟨m, rfl⟩ : ∃ q, m = q + 1 := ⟨m - 1, by omega⟩
    obtain rfl : x = (posE (l.getD i.toNat default) o : Nat) := by omega
    by_cases hp : posE (l.getD i.toNat default) o < o.length
    · have hb := posE_at (l.getD i.toNat default) o hp
      have hc : ((posE (l.getD i.toNat default) o : Nat) : Int) < (o.length : Int) := by omega
      rw [step_s_l17Sorted_1]
      simp only [S_s_l17Sorted_1, Tryd.f34, slimF, slimL, lpOf, codeOf, Option.getD_some, slim, loops, List.length_nil, Nat.add_zero, Nat.zero_add, slimO, slimG, List.map_cons, List.map_nil, List.getElem?_cons_zero, List.getElem?_cons_succ, Option.bind_some, Bool.false_eq_true, if_false, if_true, List.length_cons, List.replicate, List.cons_append, List.nil_append, List.append_nil, Nat.reduceAdd, Nat.reduceSub, List.getD_cons_zero, List.getD_cons_succ]
      simp -implicitDefEqProofs (maxSteps := 2000000) (disch := first | assumption | (refine Shut.mk ?_; kernel_rfl) | omega | (simp only [List.getElem?_cons_zero, List.getElem?_cons_succ]; done) | (simp only [List.length_append, List.length_cons, List.length_nil, List.length_set, List.length_replicate, List.length_map, List.length_take, List.length_drop] <;> omega) | (fail)) only [↓WD, ↓kAsg, ↓kRet, ↓reduceIte, ↓clash_free, ↓WDD, ↓kOpD_callv, WK, thawAt, evPick, aPut, leavesBody, outA, outS, outSs, idsA, idsL, mapA, calmAs, calmA, calmSl, calmPt, genOf, calmH, calmFrom, calmO, mapAs, maskB, isUndef, tidy, Int.reduceLT, Int.reduceLE, Int.reduceEq, Int.reduceNe, Int.reduceNeg, Int.reduceAdd, Int.reduceSub, Int.reduceMul, Int.reduceToNat, Nat.reduceAdd, Nat.reduceSub, aBuiltin, aAppend, aAppend0, aAppendV, isVec, bears, emptyArr, sliceAs, keeps, aBuildVec, aMakeVec, sliceCells, aBuildSlice, aIndexAddr, aLoad, runOf, ofCells, TY, LB, aLen, withInt, fillA, frzL, listWith, frz, frz0, deep, cellsA, setRun, okCell, List.replicate, notJunk, Nat.reduceMul, Nat.reduceLeDiff, Nat.reducePow, Nat.reduceBEq, boxIds, aResults, aResult, outAs, tupA, evNilCheck, aMove, MD, opds, evOp, asOper, one, two, evCallee, evAssign, aNew, evSlice, evField, evExtract, evFunc, pureOp, isCall, readOp, List.range', back, putBack, fuelR, closed, aStore, thawCells, place, pack, mapO, Nat.reduceEqDiff, Nat.reduceLT, maxNeed, i64_id, frzA, frzAs, memD, lentA, footC, ↓kc_s_l2Before, LE, hc, hb, Int.toNat_natCast]
    · have hc : ¬ ((posE (l.getD i.toNat default) o : Nat) : Int) < (o.length : Int) := by omega
      rw [step_s_l17Sorted_1]
      simp only [S_s_l17Sorted_1, Tryd.f34, slimF, slimL, lpOf, codeOf, Option.getD_some, slim, loops, List.length_nil, Nat.add_zero, Nat.zero_add, slimO, slimG, List.map_cons, List.map_nil, List.getElem?_cons_zero, List.getElem?_cons_succ, Option.bind_some, Bool.false_eq_true, if_false, if_true, List.length_cons, List.replicate, List.cons_append, List.nil_append, List.append_nil, Nat.reduceAdd, Nat.reduceSub, List.getD_cons_zero, List.getD_cons_succ]
      simp -implicitDefEqProofs (maxSteps := 2000000) (disch := first | assumption | (refine Shut.mk ?_; kernel_rfl) | omega | (simp only [List.getElem?_cons_zero, List.getElem?_cons_succ]; done) | (simp only [List.length_append, List.length_cons, List.length_nil, List.length_set, List.length_replicate, List.length_map, List.length_take, List.length_drop] <;> omega) | (fail)) only [↓WD, ↓kAsg, ↓kRet, ↓reduceIte, ↓clash_free, ↓WDD, ↓kOpD_callv, WK, thawAt, evPick, aPut, leavesBody, outA, outS, outSs, idsA, idsL, mapA, calmAs, calmA, calmSl, calmPt, genOf, calmH, calmFrom, calmO, mapAs, maskB, isUndef, tidy, Int.reduceLT, Int.reduceLE, Int.reduceEq, Int.reduceNe, Int.reduceNeg, Int.reduceAdd, Int.reduceSub, Int.reduceMul, Int.reduceToNat, Nat.reduceAdd, Nat.reduceSub, aBuiltin, aAppend, aAppend0, aAppendV, isVec, bears, emptyArr, sliceAs, keeps, aBuildVec, aMakeVec, sliceCells, aBuildSlice, aIndexAddr, aLoad, runOf, ofCells, TY, LB, aLen, withInt, fillA, frzL, listWith, frz, frz0, deep, cellsA, setRun, okCell, List.replicate, notJunk, Nat.reduceMul, Nat.reduceLeDiff, Nat.reducePow, Nat.reduceBEq, boxIds, aResults, aResult, outAs, tupA, evNilCheck, aMove, MD, opds, evOp, asOper, one, two, evCallee, evAssign, aNew, evSlice, evField, evExtract, evFunc, pureOp, isCall, readOp, List.range', back, putBack, fuelR, closed, aStore, thawCells, place, pack, mapO, Nat.reduceEqDiff, Nat.reduceLT, maxNeed, i64_id, frzA, frzAs, memD, lentA, footC, ↓kc_s_l2Before, LE, hc]
  | succ j ih =>
    intro x m h0 hx hm
    obtain ⟨m, rfl⟩ : ∃ q, m = q + 1 := ⟨m - 1, by omega⟩
    have hb := posE_before (l.getD i.toNat default) o x.toNat (by omega)
    have hc : x < (o.length : Int) := by omega
    have hk2 : x.toNat < o.length := by omega
    rw [step_s_l17Sorted_1]
    simp only [S_s_l17Sorted_1, Tryd.f34, slimF, slimL, lpOf, codeOf, Option.getD_some, slim, loops, List.length_nil, Nat.add_zero, Nat.zero_add, slimO, slimG, List.map_cons, List.map_nil, List.getElem?_cons_zero, List.getElem?_cons_succ, Option.bind_some, Bool.false_eq_true, if_false, if_true, List.length_cons, List.replicate, List.cons_append, List.nil_append, List.append_nil, Nat.reduceAdd, Nat.reduceSub, List.getD_cons_zero, List.getD_cons_succ]
    simp -implicitDefEqProofs (maxSteps := 2000000) (disch := first | assumption | (refine Shut.mk ?_; kernel_rfl) | omega | (simp only [List.getElem?_cons_zero, List.getElem?_cons_succ]; done) | (simp only [List.length_append, List.length_cons, List.length_nil, List.length_set, List.length_replicate, List.length_map, List.length_take, List.length_drop] <;> omega) | (fail)) only [↓WD, ↓kAsg, ↓kRet, ↓reduceIte, ↓clash_free, ↓WDD, ↓kOpD_callv, WK, thawAt, evPick, aPut, leavesBody, outA, outS, outSs, idsA, idsL, mapA, calmAs, calmA, calmSl, calmPt, genOf, calmH, calmFrom, calmO, mapAs, maskB, isUndef, tidy, Int.reduceLT, Int.reduceLE, Int.reduceEq, Int.reduceNe, Int.reduceNeg, Int.reduceAdd, Int.reduceSub, Int.reduceMul, Int.reduceToNat, Nat.reduceAdd, Nat.reduceSub, aBuiltin, aAppend, aAppend0, aAppendV, isVec, bears, emptyArr, sliceAs, keeps, aBuildVec, aMakeVec, sliceCells, aBuildSlice, aIndexAddr, aLoad, runOf, ofCells, TY, LB, aLen, withInt, fillA, frzL, listWith, frz, frz0, deep, cellsA, setRun, okCell, List.replicate, notJunk, Nat.reduceMul, Nat.reduceLeDiff, Nat.reducePow, Nat.reduceBEq, boxIds, aResults, aResult, outAs, tupA, evNilCheck, aMove, MD, opds, evOp, asOper, one, two, evCallee, evAssign, aNew, evSlice, evField, evExtract, evFunc, pureOp, isCall, readOp, List.range', back, putBack, fuelR, closed, aStore, thawCells, place, pack, mapO, Nat.reduceEqDiff, Nat.reduceLT, maxNeed, i64_id, frzA, frzAs, memD, lentA, footC, ↓kc_s_l2Before, LE, hc, hb, ↓ih]

end Ev
end Go.Proofs.YtojaohcpgelhmaaDoor
