/-
  An automaton of nothing, in memory: two slices that are nil.
-/
import Derived.Test.YtidobgmklcbcpaaMemC
set_option linter.unusedSimpArgs false
set_option linter.unusedVariables false
set_option maxRecDepth 8000
set_option pp.maxSteps 6000
set_option maxHeartbeats 4000000
namespace Go.Proofs.Ytidobgmklcbcpaa
namespace Ev

/-- A call by reference that leaves memory as it was. -/
theorem kCall_same {R : Type} {E : Env} {call : CallF} {h : H} {f : FuncId} {args args0 : List A} {r : A} {ids ord : List Nat} {blk : H} {k : A → H → Option R} (hm : (E.hint f).mode = 0) (hids : idsL args = ids) (hre : reach fuelR h ids [] = ord) (hp : pack h ord = blk) (hcl : closed h ord ids = true) (hmap : mapAs (place ord) args = args0) (he : call f args0 blk = some (r, blk)) (hr : idsA r = []) : kCall E call h f args k = k r h := by
  have hn : ord.Nodup := by rw [← hre]; exact reach_nodup fuelR h ids [] (by simp)
  have hl : ∀ i ∈ ord, i < h.length := by rw [← hre]; exact reach_lt fuelR h ids [] (by simp)
  have hbl : blk.length = ord.length := by rw [← hp]; simp [pack]
  unfold kCall
  rw [hids, hre, hp, hmap]
  have hc : aCall call E.hint blk f args0 = some (r, blk) := by unfold aCall; rw [hm]; exact he
  rw [hc]
  simp only [hbl, Nat.le_refl, hcl, and_self, if_true, mapA_none r hr, back_same]
  rw [← hp, putBack_pack hcl hn hl]

/-- Two slices of nothing. -/
structure HasNil (h : H) (v : Nat) : Prop where
  a : h[v]? = some (.arr [] 0 0)
  b : h[v + 1]? = some (.arr [] 0 0)

theorem hasNil_app {h h2 : H} {v : Nat} (k : HasNil h v) : HasNil (h ++ h2) v :=
  ⟨by rw [List.getElem?_append_left (lt_of_get k.a)]; exact k.a, by rw [List.getElem?_append_left (lt_of_get k.b)]; exact k.b⟩
theorem hasNil_new {h : H} : HasNil (h ++ [.arr [] 0 0, .arr [] 0 0]) h.length := ⟨by simp, by simp⟩
theorem hasNil_same {h h2 : H} {v : Nat} (k : HasNil h v) (hs : ∀ i, v ≤ i → i < v + 2 → h2[i]? = h[i]?) : HasNil h2 v :=
  ⟨by rw [hs _ (by omega) (by omega)]; exact k.a, by rw [hs _ (by omega) (by omega)]; exact k.b⟩

theorem rdA_nilA {h : H} {v : Nat} {al : Int} (k : HasNil h v) : rdA h (.agg [.d (.int .i64 al), .sl v 0 0 0, .sl (v + 1) 0 0 0]) = some (autD al [] []) := by
  simp [rdA, rdWith, rd1, rd0, k.a, k.b]
  rfl

theorem nil_reach {h : H} {v : Nat} (k : HasNil h v) : reach fuelR h [v, v + 1] [] = [v, v + 1] := by
  have k0 : kids h v = [] := by simp only [kids, k.a]
  have k1 : kids h (v + 1) = [] := by simp only [kids, k.b]
  have := reach_bfs (h := h) (ids := [v, v + 1]) (P := [v, v + 1]) (T := []) (by simp [k0, k1]) (by simp) (by intro j hj; simp at hj; simp only [List.length_cons, List.length_nil]; omega) (by simp) (by
    intro i hi
    simp at hi
    rcases hi with rfl | rfl
    · exact ⟨_, k.a, by simp⟩
    · exact ⟨_, k.b, by simp⟩) (n := fuelR) (by simp [fuelR])
  simpa using this

theorem nil_pack {h : H} {v : Nat} (k : HasNil h v) : pack h [v, v + 1] = [.arr [] 0 0, .arr [] 0 0] := by
  simp [pack, List.getD_eq_getElem?_getD, k.a, k.b, mapO]

theorem nil_closed {h : H} {v : Nat} (k : HasNil h v) : closed h [v, v + 1] [v, v + 1] = true := by
  simp [closed, k.a, k.b]

theorem ev_markIntSS_nil {L n : Nat} (hn : 3 ≤ n) (c : Int) (hL : 2 ^ 60 ≤ L) : evCall env L n 100 [.sl 0 0 0 0, .d (.int .i64 c)] [.arr [] 0 0] = some (.d (.int .i64 c), [.arr [] 0 0]) := by
  have loop_a : ∀ {R : Type} {n : Nat} {k : Exit → List A → H → Option R}, kLoop env (evCall env L n) L (1) [] (true :: true :: false :: false :: true :: true :: false :: false :: false :: false :: false :: false :: false :: false :: false :: false :: false :: false :: false :: []) (lp_markIntSS 0) (false :: false :: true :: true :: false :: false :: true :: true :: true :: true :: true :: true :: true :: true :: true :: true :: true :: true :: true :: []) L (.sl 0 0 0 0 :: .d (.int .i64 c) :: .junk :: .junk :: .d (.int .i64 0) :: .d (.int .i64 0) :: .junk :: .junk :: .junk :: .junk :: .junk :: .junk :: .junk :: .junk :: .junk :: .junk :: .junk :: .junk :: .junk :: []) [.arr [] 0 0] k = k (.exit 0) (.sl 0 0 0 0 :: .d (.int .i64 c) :: .junk :: .junk :: .d (.int .i64 0) :: .d (.int .i64 0) :: .junk :: .junk :: .junk :: .junk :: .junk :: .junk :: .junk :: .junk :: .junk :: .junk :: .junk :: .junk :: .junk :: []) [.arr [] 0 0] := by
    intro R n k
    obtain ⟨m, hm⟩ : ∃ m, L = m + 1 := ⟨L - 1, by omega⟩
    have key : ∀ (m L : Nat), kLoop env (evCall env L n) L (1) [] (true :: true :: false :: false :: true :: true :: false :: false :: false :: false :: false :: false :: false :: false :: false :: false :: false :: false :: false :: []) (lp_markIntSS 0) (false :: false :: true :: true :: false :: false :: true :: true :: true :: true :: true :: true :: true :: true :: true :: true :: true :: true :: true :: []) (m + 1) (.sl 0 0 0 0 :: .d (.int .i64 c) :: .junk :: .junk :: .d (.int .i64 0) :: .d (.int .i64 0) :: .junk :: .junk :: .junk :: .junk :: .junk :: .junk :: .junk :: .junk :: .junk :: .junk :: .junk :: .junk :: .junk :: []) [.arr [] 0 0] k = k (.exit 0) (.sl 0 0 0 0 :: .d (.int .i64 c) :: .junk :: .junk :: .d (.int .i64 0) :: .d (.int .i64 0) :: .junk :: .junk :: .junk :: .junk :: .junk :: .junk :: .junk :: .junk :: .junk :: .junk :: .junk :: .junk :: .junk :: []) [.arr [] 0 0] := by
      intro m L
      rw [step_markIntSS_0]
      simp only [S_markIntSS_0, Try.f100, slimF, slimL, lpOf, codeOf, Option.getD_some, slim, loops, List.length_nil, Nat.add_zero, Nat.zero_add, slimO, slimG, List.map_cons, List.map_nil, List.getElem?_cons_zero, List.getElem?_cons_succ, Option.bind_some, Bool.false_eq_true, if_false, if_true, List.length_cons, List.replicate, List.cons_append, List.nil_append, List.append_nil, Nat.reduceAdd, Nat.reduceSub, List.getD_cons_zero, List.getD_cons_succ]
      simp -implicitDefEqProofs (maxSteps := 2000000) (disch := first | assumption | (refine Shut.mk ?_; kernel_rfl) | omega | (simp only [List.getElem?_cons_zero, List.getElem?_cons_succ]; done) | (simp only [List.length_append, List.length_cons, List.length_nil, List.length_set, List.length_replicate, List.length_map, List.length_take, List.length_drop] <;> omega)) only [↓WD, ↓kAsg, ↓kRet, ↓reduceIte, ↓clash_free, ↓WDD, ↓kOpD_callv, WK, thawAt, evPick, aPut, leavesBody, outA, outS, outSs, idsA, idsL, mapA, calmAs, calmA, calmSl, calmPt, genOf, calmH, calmFrom, calmO, mapAs, maskB, isUndef, tidy, Int.reduceLT, Int.reduceLE, Int.reduceEq, Int.reduceNe, Int.reduceNeg, Int.reduceAdd, Int.reduceSub, Int.reduceMul, Int.reduceToNat, Nat.reduceAdd, Nat.reduceSub, aBuiltin, aAppend, aAppend0, aAppendV, isVec, bears, emptyArr, sliceAs, keeps, aBuildVec, aMakeVec, sliceCells, aBuildSlice, aIndexAddr, aLoad, runOf, ofCells, TY, LB, aLen, withInt, fillA, frzL, listWith, frz, frz0, deep, cellsA, setRun, okCell, List.replicate, notJunk, Nat.reduceMul, Nat.reduceLeDiff, Nat.reducePow, Nat.reduceBEq, boxIds, aResults, aResult, outAs, tupA, evNilCheck, aMove, MD, opds, evOp, asOper, one, two, evCallee, evAssign, aNew, evSlice, evField, evExtract, evFunc, pureOp, isCall, readOp, List.range', back, putBack, fuelR, closed, aStore, thawCells, place, pack, mapO, Nat.reduceEqDiff, Nat.reduceLT, maxNeed, i64_id, frzA, frzAs, memD, lentA, footC, ↓kc_markIntS, ↓loop_markIntSS, ↓loop_markIntSS_top, Int.natCast_zero, Int.lt_irrefl]
    have := key m L
    rw [← hm] at this
    exact this
  obtain ⟨n, rfl⟩ : ∃ m, n = m + 1 := ⟨n - 1, by omega⟩
  rw [fn_markIntSS]
  simp only [S_markIntSS, Try.f100, slimF, slimL, lpOf, codeOf, Option.getD_some, slim, loops, List.length_nil, Nat.add_zero, Nat.zero_add, slimO, slimG, List.map_cons, List.map_nil, List.getElem?_cons_zero, List.getElem?_cons_succ, Option.bind_some, Bool.false_eq_true, if_false, if_true, List.length_cons, List.replicate, List.cons_append, List.nil_append, List.append_nil, Nat.reduceAdd, Nat.reduceSub, List.getD_cons_zero, List.getD_cons_succ]
  simp -implicitDefEqProofs (maxSteps := 2000000) (disch := first | assumption | (refine Shut.mk ?_; kernel_rfl) | omega | (simp only [List.getElem?_cons_zero, List.getElem?_cons_succ]; done) | (simp only [List.length_append, List.length_cons, List.length_nil, List.length_set, List.length_replicate, List.length_map, List.length_take, List.length_drop] <;> omega)) only [↓WD, ↓kAsg, ↓kRet, ↓reduceIte, ↓clash_free, ↓WDD, ↓kOpD_callv, WK, thawAt, evPick, aPut, leavesBody, outA, outS, outSs, idsA, idsL, mapA, calmAs, calmA, calmSl, calmPt, genOf, calmH, calmFrom, calmO, mapAs, maskB, isUndef, tidy, Int.reduceLT, Int.reduceLE, Int.reduceEq, Int.reduceNe, Int.reduceNeg, Int.reduceAdd, Int.reduceSub, Int.reduceMul, Int.reduceToNat, Nat.reduceAdd, Nat.reduceSub, aBuiltin, aAppend, aAppend0, aAppendV, isVec, bears, emptyArr, sliceAs, keeps, aBuildVec, aMakeVec, sliceCells, aBuildSlice, aIndexAddr, aLoad, runOf, ofCells, TY, LB, aLen, withInt, fillA, frzL, listWith, frz, frz0, deep, cellsA, setRun, okCell, List.replicate, notJunk, Nat.reduceMul, Nat.reduceLeDiff, Nat.reducePow, Nat.reduceBEq, boxIds, aResults, aResult, outAs, tupA, evNilCheck, aMove, MD, opds, evOp, asOper, one, two, evCallee, evAssign, aNew, evSlice, evField, evExtract, evFunc, pureOp, isCall, readOp, List.range', back, putBack, fuelR, closed, aStore, thawCells, place, pack, mapO, Nat.reduceEqDiff, Nat.reduceLT, maxNeed, i64_id, frzA, frzAs, memD, lentA, footC, ↓kc_markIntS, ↓loop_markIntSS, ↓loop_markIntSS_top, ↓loop_a]

theorem ev_markBoolS_nil {L n : Nat} (hn : 1 ≤ n) (c : Int) (hL : 2 ^ 60 ≤ L) : evCall env L n 101 [.sl 0 0 0 0, .d (.int .i64 c)] [.arr [] 0 0] = some (.d (.int .i64 c), [.arr [] 0 0]) := by
  have loop_a : ∀ {R : Type} {n : Nat} {k : Exit → List A → H → Option R}, kLoop env (evCall env L n) L (1) [] (true :: true :: false :: false :: true :: true :: false :: false :: false :: false :: false :: false :: false :: false :: false :: false :: false :: false :: false :: false :: false :: []) (lp_markBoolS 0) (false :: false :: true :: true :: false :: false :: true :: true :: true :: true :: true :: true :: true :: true :: true :: true :: true :: true :: true :: true :: true :: []) L (.sl 0 0 0 0 :: .d (.int .i64 c) :: .junk :: .junk :: .d (.int .i64 0) :: .d (.int .i64 0) :: .junk :: .junk :: .junk :: .junk :: .junk :: .junk :: .junk :: .junk :: .junk :: .junk :: .junk :: .junk :: .junk :: .junk :: .junk :: []) [.arr [] 0 0] k = k (.exit 0) (.sl 0 0 0 0 :: .d (.int .i64 c) :: .junk :: .junk :: .d (.int .i64 0) :: .d (.int .i64 0) :: .junk :: .junk :: .junk :: .junk :: .junk :: .junk :: .junk :: .junk :: .junk :: .junk :: .junk :: .junk :: .junk :: .junk :: .junk :: []) [.arr [] 0 0] := by
    intro R n k
    obtain ⟨m, hm⟩ : ∃ m, L = m + 1 := ⟨L - 1, by omega⟩
    have key : ∀ (m L : Nat), kLoop env (evCall env L n) L (1) [] (true :: true :: false :: false :: true :: true :: false :: false :: false :: false :: false :: false :: false :: false :: false :: false :: false :: false :: false :: false :: false :: []) (lp_markBoolS 0) (false :: false :: true :: true :: false :: false :: true :: true :: true :: true :: true :: true :: true :: true :: true :: true :: true :: true :: true :: true :: true :: []) (m + 1) (.sl 0 0 0 0 :: .d (.int .i64 c) :: .junk :: .junk :: .d (.int .i64 0) :: .d (.int .i64 0) :: .junk :: .junk :: .junk :: .junk :: .junk :: .junk :: .junk :: .junk :: .junk :: .junk :: .junk :: .junk :: .junk :: .junk :: .junk :: []) [.arr [] 0 0] k = k (.exit 0) (.sl 0 0 0 0 :: .d (.int .i64 c) :: .junk :: .junk :: .d (.int .i64 0) :: .d (.int .i64 0) :: .junk :: .junk :: .junk :: .junk :: .junk :: .junk :: .junk :: .junk :: .junk :: .junk :: .junk :: .junk :: .junk :: .junk :: .junk :: []) [.arr [] 0 0] := by
      intro m L
      rw [step_markBoolS_0]
      simp only [S_markBoolS_0, Try.f101, slimF, slimL, lpOf, codeOf, Option.getD_some, slim, loops, List.length_nil, Nat.add_zero, Nat.zero_add, slimO, slimG, List.map_cons, List.map_nil, List.getElem?_cons_zero, List.getElem?_cons_succ, Option.bind_some, Bool.false_eq_true, if_false, if_true, List.length_cons, List.replicate, List.cons_append, List.nil_append, List.append_nil, Nat.reduceAdd, Nat.reduceSub, List.getD_cons_zero, List.getD_cons_succ]
      simp -implicitDefEqProofs (maxSteps := 2000000) (disch := first | assumption | (refine Shut.mk ?_; kernel_rfl) | omega | (simp only [List.getElem?_cons_zero, List.getElem?_cons_succ]; done) | (simp only [List.length_append, List.length_cons, List.length_nil, List.length_set, List.length_replicate, List.length_map, List.length_take, List.length_drop] <;> omega)) only [↓WD, ↓kAsg, ↓kRet, ↓reduceIte, ↓clash_free, ↓WDD, ↓kOpD_callv, WK, thawAt, evPick, aPut, leavesBody, outA, outS, outSs, idsA, idsL, mapA, calmAs, calmA, calmSl, calmPt, genOf, calmH, calmFrom, calmO, mapAs, maskB, isUndef, tidy, Int.reduceLT, Int.reduceLE, Int.reduceEq, Int.reduceNe, Int.reduceNeg, Int.reduceAdd, Int.reduceSub, Int.reduceMul, Int.reduceToNat, Nat.reduceAdd, Nat.reduceSub, aBuiltin, aAppend, aAppend0, aAppendV, isVec, bears, emptyArr, sliceAs, keeps, aBuildVec, aMakeVec, sliceCells, aBuildSlice, aIndexAddr, aLoad, runOf, ofCells, TY, LB, aLen, withInt, fillA, frzL, listWith, frz, frz0, deep, cellsA, setRun, okCell, List.replicate, notJunk, Nat.reduceMul, Nat.reduceLeDiff, Nat.reducePow, Nat.reduceBEq, boxIds, aResults, aResult, outAs, tupA, evNilCheck, aMove, MD, opds, evOp, asOper, one, two, evCallee, evAssign, aNew, evSlice, evField, evExtract, evFunc, pureOp, isCall, readOp, List.range', back, putBack, fuelR, closed, aStore, thawCells, place, pack, mapO, Nat.reduceEqDiff, Nat.reduceLT, maxNeed, i64_id, frzA, frzAs, memD, lentA, footC, ↓loop_markBoolS, Int.natCast_zero, Int.lt_irrefl]
    have := key m L
    rw [← hm] at this
    exact this
  obtain ⟨n, rfl⟩ : ∃ m, n = m + 1 := ⟨n - 1, by omega⟩
  rw [fn_markBoolS]
  simp only [S_markBoolS, Try.f101, slimF, slimL, lpOf, codeOf, Option.getD_some, slim, loops, List.length_nil, Nat.add_zero, Nat.zero_add, slimO, slimG, List.map_cons, List.map_nil, List.getElem?_cons_zero, List.getElem?_cons_succ, Option.bind_some, Bool.false_eq_true, if_false, if_true, List.length_cons, List.replicate, List.cons_append, List.nil_append, List.append_nil, Nat.reduceAdd, Nat.reduceSub, List.getD_cons_zero, List.getD_cons_succ]
  simp -implicitDefEqProofs (maxSteps := 2000000) (disch := first | assumption | (refine Shut.mk ?_; kernel_rfl) | omega | (simp only [List.getElem?_cons_zero, List.getElem?_cons_succ]; done) | (simp only [List.length_append, List.length_cons, List.length_nil, List.length_set, List.length_replicate, List.length_map, List.length_take, List.length_drop] <;> omega)) only [↓WD, ↓kAsg, ↓kRet, ↓reduceIte, ↓clash_free, ↓WDD, ↓kOpD_callv, WK, thawAt, evPick, aPut, leavesBody, outA, outS, outSs, idsA, idsL, mapA, calmAs, calmA, calmSl, calmPt, genOf, calmH, calmFrom, calmO, mapAs, maskB, isUndef, tidy, Int.reduceLT, Int.reduceLE, Int.reduceEq, Int.reduceNe, Int.reduceNeg, Int.reduceAdd, Int.reduceSub, Int.reduceMul, Int.reduceToNat, Nat.reduceAdd, Nat.reduceSub, aBuiltin, aAppend, aAppend0, aAppendV, isVec, bears, emptyArr, sliceAs, keeps, aBuildVec, aMakeVec, sliceCells, aBuildSlice, aIndexAddr, aLoad, runOf, ofCells, TY, LB, aLen, withInt, fillA, frzL, listWith, frz, frz0, deep, cellsA, setRun, okCell, List.replicate, notJunk, Nat.reduceMul, Nat.reduceLeDiff, Nat.reducePow, Nat.reduceBEq, boxIds, aResults, aResult, outAs, tupA, evNilCheck, aMove, MD, opds, evOp, asOper, one, two, evCallee, evAssign, aNew, evSlice, evField, evExtract, evFunc, pureOp, isCall, readOp, List.range', back, putBack, fuelR, closed, aStore, thawCells, place, pack, mapO, Nat.reduceEqDiff, Nat.reduceLT, maxNeed, i64_id, frzA, frzAs, memD, lentA, footC, ↓loop_markBoolS, ↓loop_a]

theorem ev_markAutomaton_nil {L n : Nat} (hn : 4 ≤ n) (al c : Int) (hL : 2 ^ 60 ≤ L) : evCall env L n 37 [.agg [.d (.int .i64 al), .sl 0 0 0 0, .sl 1 0 0 0], .d (.int .i64 c)] [.arr [] 0 0, .arr [] 0 0] = some (.d (.int .i64 c), [.arr [] 0 0, .arr [] 0 0]) := by
  have kc_a : ∀ {R : Type} {n id : Nat} {hq : H} {k : A → H → Option R}, 3 ≤ n → hq[id]? = some (.arr [] 0 0) → kCall env (evCall env L n) hq 100 [.sl id 0 0 0, .d (.int .i64 c)] k = k (.d (.int .i64 c)) (hq.set id (.arr [] 0 0)) := fun hn hi =>
    kCall_ref hi (by simp [idsL, idsA]) mode_markIntSS rfl (by simpa [mapAs, mapA, place] using ev_markIntSS_nil hn c hL)
  have kc_b : ∀ {R : Type} {n id : Nat} {hq : H} {k : A → H → Option R}, 1 ≤ n → hq[id]? = some (.arr [] 0 0) → kCall env (evCall env L n) hq 101 [.sl id 0 0 0, .d (.int .i64 c)] k = k (.d (.int .i64 c)) (hq.set id (.arr [] 0 0)) := fun hn hi =>
    kCall_ref hi (by simp [idsL, idsA]) mode_markBoolS rfl (by simpa [mapAs, mapA, place] using ev_markBoolS_nil hn c hL)
  obtain ⟨n, rfl⟩ : ∃ m, n = m + 1 := ⟨n - 1, by omega⟩
  rw [fn_markAutomaton]
  simp only [S_markAutomaton, Try.f37, slimF, slimL, lpOf, codeOf, Option.getD_some, slim, loops, List.length_nil, Nat.add_zero, Nat.zero_add, slimO, slimG, List.map_cons, List.map_nil, List.getElem?_cons_zero, List.getElem?_cons_succ, Option.bind_some, Bool.false_eq_true, if_false, if_true, List.length_cons, List.replicate, List.cons_append, List.nil_append, List.append_nil, Nat.reduceAdd, Nat.reduceSub, List.getD_cons_zero, List.getD_cons_succ]
  simp -implicitDefEqProofs (maxSteps := 2000000) (disch := first | assumption | (refine Shut.mk ?_; kernel_rfl) | omega | (simp only [List.getElem?_cons_zero, List.getElem?_cons_succ]; done) | (simp only [List.length_append, List.length_cons, List.length_nil, List.length_set, List.length_replicate, List.length_map, List.length_take, List.length_drop] <;> omega)) only [↓WD, ↓kAsg, ↓kRet, ↓reduceIte, ↓clash_free, ↓WDD, ↓kOpD_callv, WK, thawAt, evPick, aPut, leavesBody, outA, outS, outSs, idsA, idsL, mapA, calmAs, calmA, calmSl, calmPt, genOf, calmH, calmFrom, calmO, mapAs, maskB, isUndef, tidy, Int.reduceLT, Int.reduceLE, Int.reduceEq, Int.reduceNe, Int.reduceNeg, Int.reduceAdd, Int.reduceSub, Int.reduceMul, Int.reduceToNat, Nat.reduceAdd, Nat.reduceSub, aBuiltin, aAppend, aAppend0, aAppendV, isVec, bears, emptyArr, sliceAs, keeps, aBuildVec, aMakeVec, sliceCells, aBuildSlice, aIndexAddr, aLoad, runOf, ofCells, TY, LB, aLen, withInt, fillA, frzL, listWith, frz, frz0, deep, cellsA, setRun, okCell, List.replicate, notJunk, Nat.reduceMul, Nat.reduceLeDiff, Nat.reducePow, Nat.reduceBEq, boxIds, aResults, aResult, outAs, tupA, evNilCheck, aMove, MD, opds, evOp, asOper, one, two, evCallee, evAssign, aNew, evSlice, evField, evExtract, evFunc, pureOp, isCall, readOp, List.range', back, putBack, fuelR, closed, aStore, thawCells, place, pack, mapO, Nat.reduceEqDiff, Nat.reduceLT, maxNeed, i64_id, frzA, frzAs, memD, lentA, footC, ↓kc_a, ↓kc_b]

theorem mark_nil {L n : Nat} (hn : 4 ≤ n) {h : H} {v : Nat} {al c : Int} (k0 : HasNil h v) (hL : 2 ^ 60 ≤ L) : ∀ {R : Type} {k : A → H → Option R}, kCall env (evCall env L n) h 37 [.agg [.d (.int .i64 al), .sl v 0 0 0, .sl (v + 1) 0 0 0], .d (.int .i64 c)] k = k (.d (.int .i64 c)) h := by
  intro R k
  exact kCall_same mode_markAutomaton (ids := [v, v + 1]) (by simp [idsL, idsA]) (nil_reach k0) (nil_pack k0) (nil_closed k0) (by simp [mapAs, mapA, place]) (ev_markAutomaton_nil hn al c hL) rfl

/-- A lent call that answers with nothing. -/
theorem lay_nil {R : Type} {E : Env} {call : CallF} {h : H} {f : FuncId} {k : A → H → Option R} {args fs : List A} (hm : (E.hint f).mode = 3) (hr : rdAs h args = some fs) (hw : (idsL args).length + wgt h ≤ 1099511627776)
    (hc : call f fs [] = some (.tup [.agg [.d (.int .i64 0), .sl 0 0 0 0, .sl (0 + 1) 0 0 0], .d (.bool false)], [.arr [] 0 0, .arr [] 0 0])) :
    kCall E call h f args k = k (.tup [.agg [.d (.int .i64 0), .sl h.length 0 0 0, .sl (h.length + 1) 0 0 0], .d (.bool false)]) (h ++ [.arr [] 0 0, .arr [] 0 0]) := by
  rw [kCall_lay hm hr hw hc (by simp [cleanA, cleanAs, cleanD, cleanO])]
  simp [mapA, mapAs, back, mapO]

end Ev
end Go.Proofs.Ytidobgmklcbcpaa
