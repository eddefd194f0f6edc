/-
  Systems that are drawn, by any of the ways.
-/
import Derived.Test.YtbgjfhbbnmhnjaaDoorDrawT
import Derived.Test.YtbgjfhbbnmhnjaaDoorDrawP
set_option linter.unusedSimpArgs false
set_option linter.unusedVariables false
set_option maxRecDepth 8000
set_option maxHeartbeats 4000000
set_option pp.maxSteps 6000
namespace Go.Proofs.YtbgjfhbbnmhnjaaDoor
namespace Ev

theorem tripB_edges : ∀ (n : Nat) (cs : List D), tripB n cs = true → ∃ l : List Edge, l.length = n ∧ cs = edgesD l
  | 0, [], _ => ⟨[], rfl, rfl⟩
  | 0, _ :: _, h => by simp [tripB] at h
  | n + 1, cs, h => by
    unfold tripB at h
    split at h
    · exfalso; omega
    · rename_i m a b c ds heq
      cases heq
      obtain ⟨l, h1, h2⟩ := tripB_edges n _ h
      exact ⟨⟨a, b, c⟩ :: l, by simp [h1], by rw [h2, edgesD_cons]⟩
    · cases h

theorem shape_sys {r : Option (A × H)} (h : sysShape r = true) : ∃ (al st : Int) (l : List Edge) (ok : Bool), l.length ≤ 100 ∧ r = some (.tup [.agg [.d (.int .i64 al), .d (.int .i64 st), .d (.ivs l.length (edgesD l))], .d (.bool ok)], []) := by
  unfold sysShape at h
  split at h
  · rename_i al st n cs ok
    simp only [Bool.and_eq_true, decide_eq_true_eq] at h
    obtain ⟨l, h1, h2⟩ := tripB_edges _ _ h.1
    subst h1
    subst h2
    exact ⟨al, st, l, ok, h.2, rfl⟩
  · cases h

/-- A text of these is parsed: to some system. -/
theorem ex_ParseSystem {t : List UInt8} (ht : t ∈ texts2) : ∃ (al st : Int) (l : List Edge) (ok : Bool), l.length ≤ 100 ∧ ∀ (L n : Nat), 12 ≤ n → 2 ^ 60 ≤ L → evCall env L n 78 [.d (.str t)] [] = some (.tup [.agg [.d (.int .i64 al), .d (.int .i64 st), .d (.ivs l.length (edgesD l))], .d (.bool ok)], []) := by
  obtain ⟨al, st, l, ok, h1, h2⟩ := shape_sys (text2_all t ht)
  exact ⟨al, st, l, ok, h1, fun L n hn hL => evCall_more (by omega) hn _ _ _ _ h2⟩

theorem m_l2Draw : (env.hint 60).mode = 0 := by kernel_rfl
theorem m_l2Any : (env.hint 23).mode = 0 := by kernel_rfl

theorem ev_s_l2Texts {L n : Nat} (hn : 1 ≤ n) : evCall env L n 80 [] [] = some (.d (.ivs 11 (strsL texts2)), []) := by
  obtain ⟨n, rfl⟩ : ∃ m, n = m + 1 := ⟨n - 1, by omega⟩
  kernel_rfl

theorem kc_s_l2Texts {R : Type} {L n : Nat} {hq : H} {k : A → H → Option R} (hn : 1 ≤ n) : kCall env (evCall env L n) hq 80 [] k = k (.d (.ivs 11 (strsL texts2))) hq :=
  kCall_still rfl (ev_s_l2Texts hn) rfl (.inr rfl)

theorem ex_l2Draw {c : List UInt8} (hc : c.length ≤ 2000) (p : Int) (hp : 0 ≤ p) (hp2 : p ≤ 500000000) : ∃ (al st : Int) (es : List Edge) (q : Int), es.length ≤ 60000 ∧ p ≤ q ∧ q ≤ p + 70000 ∧ (∀ (R : Type) (L n : Nat) (hq : H) (k : A → H → Option R), 14 ≤ n → 2 ^ 60 ≤ L → kCall env (evCall env L n) (O.box [A.d (D.ivs c.length (bytesL c)), A.d (D.int .i64 p)] :: hq) 60 (.ptr 0 0 0 :: []) k = k (.agg [.d (.int .i64 al), .d (.int .i64 st), .d (.ivs es.length (edgesD es))]) (O.box [A.d (D.ivs c.length (bytesL c)), A.d (D.int .i64 q)] :: hq)) := by
  obtain ⟨v, v0, v1, _, kd1⟩ := ex_pick hc p 3 hp (by omega)
  have rest : ∀ p1 : Int, 0 ≤ p1 → p1 ≤ 500000010 → ∃ (al st few : Int) (es : List Edge) (q : Int), (0 ≤ st ∧ st ≤ 100) ∧ es.length ≤ 60000 ∧ p1 ≤ q ∧ q ≤ p1 + 60010 ∧
      (∀ (R : Type) (L n id : Nat) (hq : H) (k : A → H → Option R), 2 ≤ n → 2 ^ 60 ≤ L → hq[id]? = some (.arr (ints [3, 6, 7, 5, 1, 0, 12]) 1 0) → kCall env (evCall env L n) (O.box [A.d (D.ivs c.length (bytesL c)), A.d (D.int .i64 p1)] :: hq) 61 [.ptr 0 0 0, .sl (id + 1) 0 0 7] k = k (.d (.int .i64 al)) (O.box [A.d (D.ivs c.length (bytesL c)), A.d (D.int .i64 (p1 + 1))] :: hq)) ∧
      (∀ (R : Type) (L n id : Nat) (hq : H) (k : A → H → Option R), 2 ≤ n → 2 ^ 60 ≤ L → hq[id]? = some (.arr (ints [3, 2, 4, 1, 5]) 1 0) → kCall env (evCall env L n) (O.box [A.d (D.ivs c.length (bytesL c)), A.d (D.int .i64 (p1 + 1))] :: hq) 61 [.ptr 0 0 0, .sl (id + 1) 0 0 5] k = k (.d (.int .i64 st)) (O.box [A.d (D.ivs c.length (bytesL c)), A.d (D.int .i64 (p1 + 1 + 1))] :: hq)) ∧
      (∀ (R : Type) (L n id : Nat) (hq : H) (k : A → H → Option R), 2 ≤ n → 2 ^ 60 ≤ L → hq[id]? = some (.arr (ints [3, 2, 4, 6]) 1 0) → kCall env (evCall env L n) (O.box [A.d (D.ivs c.length (bytesL c)), A.d (D.int .i64 (p1 + 1 + 1))] :: hq) 61 [.ptr 0 0 0, .sl (id + 1) 0 0 4] k = k (.d (.int .i64 few)) (O.box [A.d (D.ivs c.length (bytesL c)), A.d (D.int .i64 (p1 + 1 + 1 + 1))] :: hq)) ∧
      (∀ (R : Type) (L n : Nat) (hq : H) (k : A → H → Option R), 4 ≤ n → 2 ^ 60 ≤ L → kCall env (evCall env L n) (O.box [A.d (D.ivs c.length (bytesL c)), A.d (D.int .i64 (p1 + 1 + 1 + 1))] :: hq) 81 (.ptr 0 0 0 :: [.d (.int .i64 al), .d (.int .i64 st), .d (.int .i64 few)]) k = k (.agg [.d (.int .i64 al), .d (.int .i64 st), .d (.ivs es.length (edgesD es))]) (O.box [A.d (D.ivs c.length (bytesL c)), A.d (D.int .i64 q)] :: hq)) := by
    intro p1 h0 h1
    obtain ⟨al, _, k1⟩ := ex_num hc [3, 6, 7, 5, 1, 0, 12] (by simp) (by simp) p1 h0 (by omega)
    obtain ⟨st, hst, k2⟩ := ex_num hc [3, 2, 4, 1, 5] (by simp) (by simp) (p1 + 1) (by omega) (by omega)
    obtain ⟨few, _, k3⟩ := ex_num hc [3, 2, 4, 6] (by simp) (by simp) (p1 + 1 + 1) (by omega) (by omega)
    have hst2 : 0 ≤ st ∧ st ≤ 100 := by simp at hst; omega
    obtain ⟨es, q, g1, g2, g3, k4⟩ := ex_l2Random hc al st few hst2.1 hst2.2 (p1 + 1 + 1 + 1) (by omega) (by omega)
    exact ⟨al, st, few, es, q, hst2, g1, by omega, by omega, k1, k2, k3, k4⟩
  by_cases hv : v = 0
  · subst hv
    obtain ⟨t, ht, kd2⟩ := ex_ofD hc texts2 (by simp [texts2]) (by simp [texts2]) (p + 1) (by omega) (by omega)
    have e11 : texts2.length = 11 := rfl
    rw [e11] at kd2
    obtain ⟨al, st, es, ok, hes, he⟩ := ex_ParseSystem ht
    have kc_p : ∀ {R : Type} {L n : Nat} {hq : H} {k : A → H → Option R}, 12 ≤ n → 2 ^ 60 ≤ L → kCall env (evCall env L n) hq 78 [.d (.str t)] k = k (.tup [.agg [.d (.int .i64 al), .d (.int .i64 st), .d (.ivs es.length (edgesD es))], .d (.bool ok)]) hq := fun hn hL => kCall_still rfl (he _ _ hn hL) rfl (.inr rfl)
    cases ok with
    | true =>
      refine ⟨al, st, es, p + 1 + 1, by omega, by omega, by omega, fun R L n hq k hn hL => kCall_rd m_l2Draw rfl rfl ?_⟩
      obtain ⟨n, rfl⟩ : ∃ m, n = m + 1 := ⟨n - 1, by omega⟩
      rw [fn_s_l2Draw]
      simp only [S_s_l2Draw, Tryd.f60, slimF, slimL, lpOf, codeOf, Option.getD_some, slim, loops, List.length_nil, Nat.add_zero, Nat.zero_add, slimO, slimG, List.map_cons, List.map_nil, List.getElem?_cons_zero, List.getElem?_cons_succ, Option.bind_some, Bool.false_eq_true, if_false, if_true, List.length_cons, List.replicate, List.cons_append, List.nil_append, List.append_nil, Nat.reduceAdd, Nat.reduceSub, List.getD_cons_zero, List.getD_cons_succ]
      simp -implicitDefEqProofs (maxSteps := 2000000) (disch := first | assumption | (refine Shut.mk ?_; kernel_rfl) | omega | (simp only [List.getElem?_cons_zero, List.getElem?_cons_succ]; done) | (simp only [List.length_append, List.length_cons, List.length_nil, List.length_set, List.length_replicate, List.length_map, List.length_take, List.length_drop] <;> omega) | (fail)) only [↓WD, ↓kAsg, ↓kRet, ↓reduceIte, ↓clash_free, ↓WDD, ↓kOpD_callv, WK, thawAt, evPick, aPut, leavesBody, outA, outS, outSs, idsA, idsL, mapA, calmAs, calmA, calmSl, calmPt, genOf, calmH, calmFrom, calmO, mapAs, maskB, isUndef, tidy, Int.reduceLT, Int.reduceLE, Int.reduceEq, Int.reduceNe, Int.reduceNeg, Int.reduceAdd, Int.reduceSub, Int.reduceMul, Int.reduceToNat, Nat.reduceAdd, Nat.reduceSub, aBuiltin, aAppend, aAppend0, aAppendV, isVec, bears, emptyArr, sliceAs, keeps, aBuildVec, aMakeVec, sliceCells, aBuildSlice, aIndexAddr, aLoad, runOf, ofCells, TY, LB, aLen, withInt, fillA, frzL, listWith, frz, frz0, deep, cellsA, setRun, okCell, List.replicate, notJunk, Nat.reduceMul, Nat.reduceLeDiff, Nat.reducePow, Nat.reduceBEq, boxIds, aResults, aResult, outAs, tupA, evNilCheck, aMove, MD, opds, evOp, asOper, one, two, evCallee, evAssign, aNew, evSlice, evField, evExtract, evFunc, pureOp, isCall, readOp, List.range', back, putBack, fuelR, closed, aStore, thawCells, place, pack, mapO, Nat.reduceEqDiff, Nat.reduceLT, maxNeed, i64_id, frzA, frzAs, memD, lentA, footC, ↓kc_s_l2Texts, LE, ↓kd1, ↓kd2, ↓kc_p]
    | false =>
      obtain ⟨al', st', few, es', q, hst, g1, g2, g3, k1, k2, k3, k4⟩ := rest (p + 1 + 1) (by omega) (by omega)
      simp only [ints, List.map_cons, List.map_nil] at k1 k2 k3
      refine ⟨al', st', es', q, g1, by omega, by omega, fun R L n hq k hn hL => kCall_rd m_l2Draw rfl rfl ?_⟩
      have kd3 := fun {R : Type} {L n id : Nat} {hq : H} {k : A → H → Option R} => k1 R L n id hq k
      have kd4 := fun {R : Type} {L n id : Nat} {hq : H} {k : A → H → Option R} => k2 R L n id hq k
      have kd5 := fun {R : Type} {L n id : Nat} {hq : H} {k : A → H → Option R} => k3 R L n id hq k
      have kd6 := fun {R : Type} {L n : Nat} {hq : H} {k : A → H → Option R} => k4 R L n hq k
      obtain ⟨n, rfl⟩ : ∃ m, n = m + 1 := ⟨n - 1, by omega⟩
      rw [fn_s_l2Draw]
      simp only [S_s_l2Draw, Tryd.f60, slimF, slimL, lpOf, codeOf, Option.getD_some, slim, loops, List.length_nil, Nat.add_zero, Nat.zero_add, slimO, slimG, List.map_cons, List.map_nil, List.getElem?_cons_zero, List.getElem?_cons_succ, Option.bind_some, Bool.false_eq_true, if_false, if_true, List.length_cons, List.replicate, List.cons_append, List.nil_append, List.append_nil, Nat.reduceAdd, Nat.reduceSub, List.getD_cons_zero, List.getD_cons_succ]
      simp -implicitDefEqProofs (maxSteps := 2000000) (disch := first | assumption | (refine Shut.mk ?_; kernel_rfl) | omega | (simp only [List.getElem?_cons_zero, List.getElem?_cons_succ]; done) | (simp only [List.length_append, List.length_cons, List.length_nil, List.length_set, List.length_replicate, List.length_map, List.length_take, List.length_drop] <;> omega) | (fail)) only [↓WD, ↓kAsg, ↓kRet, ↓reduceIte, ↓clash_free, ↓WDD, ↓kOpD_callv, WK, thawAt, evPick, aPut, leavesBody, outA, outS, outSs, idsA, idsL, mapA, calmAs, calmA, calmSl, calmPt, genOf, calmH, calmFrom, calmO, mapAs, maskB, isUndef, tidy, Int.reduceLT, Int.reduceLE, Int.reduceEq, Int.reduceNe, Int.reduceNeg, Int.reduceAdd, Int.reduceSub, Int.reduceMul, Int.reduceToNat, Nat.reduceAdd, Nat.reduceSub, aBuiltin, aAppend, aAppend0, aAppendV, isVec, bears, emptyArr, sliceAs, keeps, aBuildVec, aMakeVec, sliceCells, aBuildSlice, aIndexAddr, aLoad, runOf, ofCells, TY, LB, aLen, withInt, fillA, frzL, listWith, frz, frz0, deep, cellsA, setRun, okCell, List.replicate, notJunk, Nat.reduceMul, Nat.reduceLeDiff, Nat.reducePow, Nat.reduceBEq, boxIds, aResults, aResult, outAs, tupA, evNilCheck, aMove, MD, opds, evOp, asOper, one, two, evCallee, evAssign, aNew, evSlice, evField, evExtract, evFunc, pureOp, isCall, readOp, List.range', back, putBack, fuelR, closed, aStore, thawCells, place, pack, mapO, Nat.reduceEqDiff, Nat.reduceLT, maxNeed, i64_id, frzA, frzAs, memD, lentA, footC, ↓kc_s_l2Texts, LE, ↓kd1, ↓kd2, ↓kc_p, ↓kd3, ↓kd4, ↓kd5, ↓kd6]
  · obtain ⟨al', st', few, es', q, hst, g1, g2, g3, k1, k2, k3, k4⟩ := rest (p + 1) (by omega) (by omega)
    simp only [ints, List.map_cons, List.map_nil] at k1 k2 k3
    refine ⟨al', st', es', q, g1, by omega, by omega, fun R L n hq k hn hL => kCall_rd m_l2Draw rfl rfl ?_⟩
    have kd3 := fun {R : Type} {L n id : Nat} {hq : H} {k : A → H → Option R} => k1 R L n id hq k
    have kd4 := fun {R : Type} {L n id : Nat} {hq : H} {k : A → H → Option R} => k2 R L n id hq k
    have kd5 := fun {R : Type} {L n id : Nat} {hq : H} {k : A → H → Option R} => k3 R L n id hq k
    have kd6 := fun {R : Type} {L n : Nat} {hq : H} {k : A → H → Option R} => k4 R L n hq k
    obtain ⟨n, rfl⟩ : ∃ m, n = m + 1 := ⟨n - 1, by omega⟩
    rw [fn_s_l2Draw]
    simp only [S_s_l2Draw, Tryd.f60, slimF, slimL, lpOf, codeOf, Option.getD_some, slim, loops, List.length_nil, Nat.add_zero, Nat.zero_add, slimO, slimG, List.map_cons, List.map_nil, List.getElem?_cons_zero, List.getElem?_cons_succ, Option.bind_some, Bool.false_eq_true, if_false, if_true, List.length_cons, List.replicate, List.cons_append, List.nil_append, List.append_nil, Nat.reduceAdd, Nat.reduceSub, List.getD_cons_zero, List.getD_cons_succ]
    simp -implicitDefEqProofs (maxSteps := 2000000) (disch := first | assumption | (refine Shut.mk ?_; kernel_rfl) | omega | (simp only [List.getElem?_cons_zero, List.getElem?_cons_succ]; done) | (simp only [List.length_append, List.length_cons, List.length_nil, List.length_set, List.length_replicate, List.length_map, List.length_take, List.length_drop] <;> omega) | (fail)) only [↓WD, ↓kAsg, ↓kRet, ↓reduceIte, ↓clash_free, ↓WDD, ↓kOpD_callv, WK, thawAt, evPick, aPut, leavesBody, outA, outS, outSs, idsA, idsL, mapA, calmAs, calmA, calmSl, calmPt, genOf, calmH, calmFrom, calmO, mapAs, maskB, isUndef, tidy, Int.reduceLT, Int.reduceLE, Int.reduceEq, Int.reduceNe, Int.reduceNeg, Int.reduceAdd, Int.reduceSub, Int.reduceMul, Int.reduceToNat, Nat.reduceAdd, Nat.reduceSub, aBuiltin, aAppend, aAppend0, aAppendV, isVec, bears, emptyArr, sliceAs, keeps, aBuildVec, aMakeVec, sliceCells, aBuildSlice, aIndexAddr, aLoad, runOf, ofCells, TY, LB, aLen, withInt, fillA, frzL, listWith, frz, frz0, deep, cellsA, setRun, okCell, List.replicate, notJunk, Nat.reduceMul, Nat.reduceLeDiff, Nat.reducePow, Nat.reduceBEq, boxIds, aResults, aResult, outAs, tupA, evNilCheck, aMove, MD, opds, evOp, asOper, one, two, evCallee, evAssign, aNew, evSlice, evField, evExtract, evFunc, pureOp, isCall, readOp, List.range', back, putBack, fuelR, closed, aStore, thawCells, place, pack, mapO, Nat.reduceEqDiff, Nat.reduceLT, maxNeed, i64_id, frzA, frzAs, memD, lentA, footC, ↓kc_s_l2Texts, LE, ↓kd1, hv, ↓kd3, ↓kd4, ↓kd5, ↓kd6]

theorem ex_l2Any {c : List UInt8} (hc : c.length ≤ 2000) (p : Int) (hp : 0 ≤ p) (hp2 : p ≤ 400000000) : ∃ (al st : Int) (es : List Edge) (q : Int), es.length ≤ 80000 ∧ p ≤ q ∧ q ≤ p + 200000 ∧ (∀ (R : Type) (L n : Nat) (hq : H) (k : A → H → Option R), 15 ≤ n → 2 ^ 60 ≤ L → kCall env (evCall env L n) (O.box [A.d (D.ivs c.length (bytesL c)), A.d (D.int .i64 p)] :: hq) 23 (.ptr 0 0 0 :: []) k = k (.agg [.d (.int .i64 al), .d (.int .i64 st), .d (.ivs es.length (edgesD es))]) (O.box [A.d (D.ivs c.length (bytesL c)), A.d (D.int .i64 q)] :: hq)) := by
  obtain ⟨v, v0, v1, _, kd1⟩ := ex_pick hc p 12 hp (by omega)
  by_cases hv : v = 0
  · subst hv
    obtain ⟨es, q, g1, g2, g3, kd2⟩ := ex_l2Big hc (p + 1) (by omega) (by omega)
    refine ⟨3, 16, es, q, by omega, by omega, by omega, fun R L n hq k hn hL => kCall_rd m_l2Any rfl rfl ?_⟩
    obtain ⟨n, rfl⟩ : ∃ m, n = m + 1 := ⟨n - 1, by omega⟩
    rw [fn_s_l2Any]
    simp only [S_s_l2Any, Tryd.f23, slimF, slimL, lpOf, codeOf, Option.getD_some, slim, loops, List.length_nil, Nat.add_zero, Nat.zero_add, slimO, slimG, List.map_cons, List.map_nil, List.getElem?_cons_zero, List.getElem?_cons_succ, Option.bind_some, Bool.false_eq_true, if_false, if_true, List.length_cons, List.replicate, List.cons_append, List.nil_append, List.append_nil, Nat.reduceAdd, Nat.reduceSub, List.getD_cons_zero, List.getD_cons_succ]
    simp -implicitDefEqProofs (maxSteps := 2000000) (disch := first | assumption | (refine Shut.mk ?_; kernel_rfl) | omega | (simp only [List.getElem?_cons_zero, List.getElem?_cons_succ]; done) | (simp only [List.length_append, List.length_cons, List.length_nil, List.length_set, List.length_replicate, List.length_map, List.length_take, List.length_drop] <;> omega) | (fail)) only [↓WD, ↓kAsg, ↓kRet, ↓reduceIte, ↓clash_free, ↓WDD, ↓kOpD_callv, WK, thawAt, evPick, aPut, leavesBody, outA, outS, outSs, idsA, idsL, mapA, calmAs, calmA, calmSl, calmPt, genOf, calmH, calmFrom, calmO, mapAs, maskB, isUndef, tidy, Int.reduceLT, Int.reduceLE, Int.reduceEq, Int.reduceNe, Int.reduceNeg, Int.reduceAdd, Int.reduceSub, Int.reduceMul, Int.reduceToNat, Nat.reduceAdd, Nat.reduceSub, aBuiltin, aAppend, aAppend0, aAppendV, isVec, bears, emptyArr, sliceAs, keeps, aBuildVec, aMakeVec, sliceCells, aBuildSlice, aIndexAddr, aLoad, runOf, ofCells, TY, LB, aLen, withInt, fillA, frzL, listWith, frz, frz0, deep, cellsA, setRun, okCell, List.replicate, notJunk, Nat.reduceMul, Nat.reduceLeDiff, Nat.reducePow, Nat.reduceBEq, boxIds, aResults, aResult, outAs, tupA, evNilCheck, aMove, MD, opds, evOp, asOper, one, two, evCallee, evAssign, aNew, evSlice, evField, evExtract, evFunc, pureOp, isCall, readOp, List.range', back, putBack, fuelR, closed, aStore, thawCells, place, pack, mapO, Nat.reduceEqDiff, Nat.reduceLT, maxNeed, i64_id, frzA, frzAs, memD, lentA, footC, LE, ↓kd1, ↓kd2]
  · obtain ⟨al, st, es, q, g1, g2, g3, kd2⟩ := ex_l2Draw hc (p + 1) (by omega) (by omega)
    obtain ⟨al2, st2, es2, q2, b1, b2, b3, kd3⟩ := ex_l2Wrong hc al st es (by omega) q (by omega) (by omega)
    refine ⟨al2, st2, es2, q2, b1, by omega, by omega, fun R L n hq k hn hL => kCall_rd m_l2Any rfl rfl ?_⟩
    obtain ⟨n, rfl⟩ : ∃ m, n = m + 1 := ⟨n - 1, by omega⟩
    rw [fn_s_l2Any]
    simp only [S_s_l2Any, Tryd.f23, slimF, slimL, lpOf, codeOf, Option.getD_some, slim, loops, List.length_nil, Nat.add_zero, Nat.zero_add, slimO, slimG, List.map_cons, List.map_nil, List.getElem?_cons_zero, List.getElem?_cons_succ, Option.bind_some, Bool.false_eq_true, if_false, if_true, List.length_cons, List.replicate, List.cons_append, List.nil_append, List.append_nil, Nat.reduceAdd, Nat.reduceSub, List.getD_cons_zero, List.getD_cons_succ]
    simp -implicitDefEqProofs (maxSteps := 2000000) (disch := first | assumption | (refine Shut.mk ?_; kernel_rfl) | omega | (simp only [List.getElem?_cons_zero, List.getElem?_cons_succ]; done) | (simp only [List.length_append, List.length_cons, List.length_nil, List.length_set, List.length_replicate, List.length_map, List.length_take, List.length_drop] <;> omega) | (fail)) only [↓WD, ↓kAsg, ↓kRet, ↓reduceIte, ↓clash_free, ↓WDD, ↓kOpD_callv, WK, thawAt, evPick, aPut, leavesBody, outA, outS, outSs, idsA, idsL, mapA, calmAs, calmA, calmSl, calmPt, genOf, calmH, calmFrom, calmO, mapAs, maskB, isUndef, tidy, Int.reduceLT, Int.reduceLE, Int.reduceEq, Int.reduceNe, Int.reduceNeg, Int.reduceAdd, Int.reduceSub, Int.reduceMul, Int.reduceToNat, Nat.reduceAdd, Nat.reduceSub, aBuiltin, aAppend, aAppend0, aAppendV, isVec, bears, emptyArr, sliceAs, keeps, aBuildVec, aMakeVec, sliceCells, aBuildSlice, aIndexAddr, aLoad, runOf, ofCells, TY, LB, aLen, withInt, fillA, frzL, listWith, frz, frz0, deep, cellsA, setRun, okCell, List.replicate, notJunk, Nat.reduceMul, Nat.reduceLeDiff, Nat.reducePow, Nat.reduceBEq, boxIds, aResults, aResult, outAs, tupA, evNilCheck, aMove, MD, opds, evOp, asOper, one, two, evCallee, evAssign, aNew, evSlice, evField, evExtract, evFunc, pureOp, isCall, readOp, List.range', back, putBack, fuelR, closed, aStore, thawCells, place, pack, mapO, Nat.reduceEqDiff, Nat.reduceLT, maxNeed, i64_id, frzA, frzAs, memD, lentA, footC, LE, ↓kd1, hv, ↓kd2, ↓kd3]

end Ev
end Go.Proofs.YtbgjfhbbnmhnjaaDoor
