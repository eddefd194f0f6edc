/-
  Edges that are drawn, with a system.
-/
import Derived.Test.YtidobgmklcbcpaaDrawA
set_option linter.unusedSimpArgs false
set_option linter.unusedVariables false
set_option maxRecDepth 8000
set_option maxHeartbeats 4000000
set_option pp.maxSteps 6000
namespace Go.Proofs.Ytidobgmklcbcpaa
namespace Ev

theorem m_l17Edge : (env.hint 108).mode = 0 := by kernel_rfl

theorem ex_l17Edge {c : List UInt8} (hc : c.length ≤ 2000) (al st : Int) (es : List Edge) (hes : es.length ≤ 80000) (p : Int) (hp : 0 ≤ p) (hp2 : p ≤ 600000000) : ∃ (a b d q : Int), p ≤ q ∧ q ≤ p + 10 ∧ (∀ (R : Type) (L n : Nat) (hq : H) (k : A → H → Option R), 4 ≤ n → 2 ^ 60 ≤ L → kCall env (evCall env L n) (O.box [A.d (D.ivs c.length (bytesL c)), A.d (D.int .i64 p)] :: hq) 108 (.ptr 0 0 0 :: [.agg [.d (.int .i64 al), .d (.int .i64 st), .d (.ivs es.length (edgesD es))]]) k = k (.agg [.d (.int .i64 a), .d (.int .i64 b), .d (.int .i64 d)]) (O.box [A.d (D.ivs c.length (bytesL c)), A.d (D.int .i64 q)] :: hq)) := by
  have rest : ∀ p1 : Int, 0 ≤ p1 → p1 ≤ 600000005 → ∃ (x u l t : Int), (0 ≤ x ∧ x < 5) ∧ (0 ≤ u ∧ u ≤ 1) ∧
      (∀ (R : Type) (L n : Nat) (hq : H) (k : A → H → Option R), 1 ≤ n → 2 ^ 60 ≤ L → kCall env (evCall env L n) (O.box [A.d (D.ivs c.length (bytesL c)), A.d (D.int .i64 p1)] :: hq) 120 (.ptr 0 0 0 :: [.d (.int .i64 5)]) k = k (.d (.int .i64 x)) (O.box [A.d (D.ivs c.length (bytesL c)), A.d (D.int .i64 (p1 + 1))] :: hq)) ∧
      (∀ (R : Type) (L n id : Nat) (hq : H) (k : A → H → Option R), 2 ≤ n → 2 ^ 60 ≤ L → hq[id]? = some (.arr (ints [0, 0, 0, 1]) 1 0) → kCall env (evCall env L n) (O.box [A.d (D.ivs c.length (bytesL c)), A.d (D.int .i64 (p1 + 1))] :: hq) 123 [.ptr 0 0 0, .sl (id + 1) 0 0 4] k = k (.d (.int .i64 u)) (O.box [A.d (D.ivs c.length (bytesL c)), A.d (D.int .i64 (p1 + 1 + 1))] :: hq)) ∧
      (∀ (R : Type) (L n : Nat) (hq : H) (k : A → H → Option R), 1 ≤ n → 2 ^ 60 ≤ L → kCall env (evCall env L n) (O.box [A.d (D.ivs c.length (bytesL c)), A.d (D.int .i64 (p1 + 1 + 1))] :: hq) 120 (.ptr 0 0 0 :: [.d (.int .i64 4)]) k = k (.d (.int .i64 l)) (O.box [A.d (D.ivs c.length (bytesL c)), A.d (D.int .i64 (p1 + 1 + 1 + 1))] :: hq)) ∧
      (∀ (R : Type) (L n : Nat) (hq : H) (k : A → H → Option R), 1 ≤ n → 2 ^ 60 ≤ L → kCall env (evCall env L n) (O.box [A.d (D.ivs c.length (bytesL c)), A.d (D.int .i64 (p1 + 1 + 1 + 1))] :: hq) 120 (.ptr 0 0 0 :: [.d (.int .i64 5)]) k = k (.d (.int .i64 t)) (O.box [A.d (D.ivs c.length (bytesL c)), A.d (D.int .i64 (p1 + 1 + 1 + 1 + 1))] :: hq)) := by
    intro p1 h0 h1
    obtain ⟨x, x0, x1, _, k1⟩ := ex_pick hc p1 5 h0 (by omega)
    obtain ⟨u, hu, k2⟩ := ex_num hc [0, 0, 0, 1] (by simp) (by simp) (p1 + 1) (by omega) (by omega)
    obtain ⟨l, _, _, _, k3⟩ := ex_pick hc (p1 + 1 + 1) 4 (by omega) (by omega)
    obtain ⟨t, _, _, _, k4⟩ := ex_pick hc (p1 + 1 + 1 + 1) 5 (by omega) (by omega)
    have hu2 : 0 ≤ u ∧ u ≤ 1 := by simp at hu; omega
    exact ⟨x, u, l, t, ⟨x0, x1 (by omega)⟩, hu2, k1, k2, k3, k4⟩
  by_cases hpos : (0 : Int) < es.length
  · obtain ⟨v, v0, v1, _, kd1⟩ := ex_pick hc p 2 hp (by omega)
    by_cases hv : v = 0
    · subst hv
      obtain ⟨u, u0, u1, _, kd2⟩ := ex_pick hc (p + 1) es.length (by omega) (by omega)
      have hu : u < es.length := u1 (by omega)
      have hk : u.toNat < es.length := by omega
      refine ⟨(es.getD u.toNat default).fr, (es.getD u.toNat default).lt, (es.getD u.toNat default).to, p + 1 + 1, by omega, by omega, fun R L n hq k hn hL => kCall_rd m_l17Edge rfl rfl ?_⟩
      obtain ⟨n, rfl⟩ : ∃ m, n = m + 1 := ⟨n - 1, by omega⟩
      rw [fn_s_l17Edge]
      simp only [S_s_l17Edge, Try.f108, slimF, slimL, lpOf, codeOf, Option.getD_some, slim, loops, List.length_nil, Nat.add_zero, Nat.zero_add, slimO, slimG, List.map_cons, List.map_nil, List.getElem?_cons_zero, List.getElem?_cons_succ, Option.bind_some, Bool.false_eq_true, if_false, if_true, List.length_cons, List.replicate, List.cons_append, List.nil_append, List.append_nil, Nat.reduceAdd, Nat.reduceSub, List.getD_cons_zero, List.getD_cons_succ]
      simp -implicitDefEqProofs (maxSteps := 2000000) (disch := first | assumption | (refine Shut.mk ?_; kernel_rfl) | omega | (simp only [List.getElem?_cons_zero, List.getElem?_cons_succ]; done) | (simp only [List.length_append, List.length_cons, List.length_nil, List.length_set, List.length_replicate, List.length_map, List.length_take, List.length_drop] <;> omega) | (fail)) only [↓WD, ↓kAsg, ↓kRet, ↓reduceIte, ↓clash_free, ↓WDD, ↓kOpD_callv, WK, thawAt, evPick, aPut, leavesBody, outA, outS, outSs, idsA, idsL, mapA, calmAs, calmA, calmSl, calmPt, genOf, calmH, calmFrom, calmO, mapAs, maskB, isUndef, tidy, Int.reduceLT, Int.reduceLE, Int.reduceEq, Int.reduceNe, Int.reduceNeg, Int.reduceAdd, Int.reduceSub, Int.reduceMul, Int.reduceToNat, Nat.reduceAdd, Nat.reduceSub, aBuiltin, aAppend, aAppend0, aAppendV, isVec, bears, emptyArr, sliceAs, keeps, aBuildVec, aMakeVec, sliceCells, aBuildSlice, aIndexAddr, aLoad, runOf, ofCells, TY, LB, aLen, withInt, fillA, frzL, listWith, frz, frz0, deep, cellsA, setRun, okCell, List.replicate, notJunk, Nat.reduceMul, Nat.reduceLeDiff, Nat.reducePow, Nat.reduceBEq, boxIds, aResults, aResult, outAs, tupA, evNilCheck, aMove, MD, opds, evOp, asOper, one, two, evCallee, evAssign, aNew, evSlice, evField, evExtract, evFunc, pureOp, isCall, readOp, List.range', back, putBack, fuelR, closed, aStore, thawCells, place, pack, mapO, Nat.reduceEqDiff, Nat.reduceLT, maxNeed, i64_id, frzA, frzAs, memD, lentA, footC, ↓conv_slb_to, ↓conv_slb_from, ↓conv_sls_to, ↓conv_sls_from, ↓conv_sls_both, LE, hpos, hu, ↓kd1, ↓kd2]
    · obtain ⟨x, u, l, t, hx, hu, k1, k2, k3, k4⟩ := rest (p + 1) (by omega) (by omega)
      simp only [ints, List.map_cons, List.map_nil] at k2
      refine ⟨x - u, l, t, p + 1 + 1 + 1 + 1 + 1, by omega, by omega, fun R L n hq k hn hL => kCall_rd m_l17Edge rfl rfl ?_⟩
      have kd3 := fun {R : Type} {L n : Nat} {hq : H} {k : A → H → Option R} => k1 R L n hq k
      have kd4 := fun {R : Type} {L n id : Nat} {hq : H} {k : A → H → Option R} => k2 R L n id hq k
      have kd5 := fun {R : Type} {L n : Nat} {hq : H} {k : A → H → Option R} => k3 R L n hq k
      have kd6 := fun {R : Type} {L n : Nat} {hq : H} {k : A → H → Option R} => k4 R L n hq k
      obtain ⟨n, rfl⟩ : ∃ m, n = m + 1 := ⟨n - 1, by omega⟩
      rw [fn_s_l17Edge]
      simp only [S_s_l17Edge, Try.f108, slimF, slimL, lpOf, codeOf, Option.getD_some, slim, loops, List.length_nil, Nat.add_zero, Nat.zero_add, slimO, slimG, List.map_cons, List.map_nil, List.getElem?_cons_zero, List.getElem?_cons_succ, Option.bind_some, Bool.false_eq_true, if_false, if_true, List.length_cons, List.replicate, List.cons_append, List.nil_append, List.append_nil, Nat.reduceAdd, Nat.reduceSub, List.getD_cons_zero, List.getD_cons_succ]
      simp -implicitDefEqProofs (maxSteps := 2000000) (disch := first | assumption | (refine Shut.mk ?_; kernel_rfl) | omega | (simp only [List.getElem?_cons_zero, List.getElem?_cons_succ]; done) | (simp only [List.length_append, List.length_cons, List.length_nil, List.length_set, List.length_replicate, List.length_map, List.length_take, List.length_drop] <;> omega) | (fail)) only [↓WD, ↓kAsg, ↓kRet, ↓reduceIte, ↓clash_free, ↓WDD, ↓kOpD_callv, WK, thawAt, evPick, aPut, leavesBody, outA, outS, outSs, idsA, idsL, mapA, calmAs, calmA, calmSl, calmPt, genOf, calmH, calmFrom, calmO, mapAs, maskB, isUndef, tidy, Int.reduceLT, Int.reduceLE, Int.reduceEq, Int.reduceNe, Int.reduceNeg, Int.reduceAdd, Int.reduceSub, Int.reduceMul, Int.reduceToNat, Nat.reduceAdd, Nat.reduceSub, aBuiltin, aAppend, aAppend0, aAppendV, isVec, bears, emptyArr, sliceAs, keeps, aBuildVec, aMakeVec, sliceCells, aBuildSlice, aIndexAddr, aLoad, runOf, ofCells, TY, LB, aLen, withInt, fillA, frzL, listWith, frz, frz0, deep, cellsA, setRun, okCell, List.replicate, notJunk, Nat.reduceMul, Nat.reduceLeDiff, Nat.reducePow, Nat.reduceBEq, boxIds, aResults, aResult, outAs, tupA, evNilCheck, aMove, MD, opds, evOp, asOper, one, two, evCallee, evAssign, aNew, evSlice, evField, evExtract, evFunc, pureOp, isCall, readOp, List.range', back, putBack, fuelR, closed, aStore, thawCells, place, pack, mapO, Nat.reduceEqDiff, Nat.reduceLT, maxNeed, i64_id, frzA, frzAs, memD, lentA, footC, ↓conv_slb_to, ↓conv_slb_from, ↓conv_sls_to, ↓conv_sls_from, ↓conv_sls_both, LE, hpos, hv, ↓kd1, ↓kd3, ↓kd4, ↓kd5, ↓kd6]
  · obtain ⟨x, u, l, t, hx, hu, k1, k2, k3, k4⟩ := rest p (by omega) (by omega)
    simp only [ints, List.map_cons, List.map_nil] at k2
    refine ⟨x - u, l, t, p + 1 + 1 + 1 + 1, by omega, by omega, fun R L n hq k hn hL => kCall_rd m_l17Edge rfl rfl ?_⟩
    have kd3 := fun {R : Type} {L n : Nat} {hq : H} {k : A → H → Option R} => k1 R L n hq k
    have kd4 := fun {R : Type} {L n id : Nat} {hq : H} {k : A → H → Option R} => k2 R L n id hq k
    have kd5 := fun {R : Type} {L n : Nat} {hq : H} {k : A → H → Option R} => k3 R L n hq k
    have kd6 := fun {R : Type} {L n : Nat} {hq : H} {k : A → H → Option R} => k4 R L n hq k
    obtain ⟨n, rfl⟩ : ∃ m, n = m + 1 := ⟨n - 1, by omega⟩
    rw [fn_s_l17Edge]
    simp only [S_s_l17Edge, Try.f108, slimF, slimL, lpOf, codeOf, Option.getD_some, slim, loops, List.length_nil, Nat.add_zero, Nat.zero_add, slimO, slimG, List.map_cons, List.map_nil, List.getElem?_cons_zero, List.getElem?_cons_succ, Option.bind_some, Bool.false_eq_true, if_false, if_true, List.length_cons, List.replicate, List.cons_append, List.nil_append, List.append_nil, Nat.reduceAdd, Nat.reduceSub, List.getD_cons_zero, List.getD_cons_succ]
    simp -implicitDefEqProofs (maxSteps := 2000000) (disch := first | assumption | (refine Shut.mk ?_; kernel_rfl) | omega | (simp only [List.getElem?_cons_zero, List.getElem?_cons_succ]; done) | (simp only [List.length_append, List.length_cons, List.length_nil, List.length_set, List.length_replicate, List.length_map, List.length_take, List.length_drop] <;> omega) | (fail)) only [↓WD, ↓kAsg, ↓kRet, ↓reduceIte, ↓clash_free, ↓WDD, ↓kOpD_callv, WK, thawAt, evPick, aPut, leavesBody, outA, outS, outSs, idsA, idsL, mapA, calmAs, calmA, calmSl, calmPt, genOf, calmH, calmFrom, calmO, mapAs, maskB, isUndef, tidy, Int.reduceLT, Int.reduceLE, Int.reduceEq, Int.reduceNe, Int.reduceNeg, Int.reduceAdd, Int.reduceSub, Int.reduceMul, Int.reduceToNat, Nat.reduceAdd, Nat.reduceSub, aBuiltin, aAppend, aAppend0, aAppendV, isVec, bears, emptyArr, sliceAs, keeps, aBuildVec, aMakeVec, sliceCells, aBuildSlice, aIndexAddr, aLoad, runOf, ofCells, TY, LB, aLen, withInt, fillA, frzL, listWith, frz, frz0, deep, cellsA, setRun, okCell, List.replicate, notJunk, Nat.reduceMul, Nat.reduceLeDiff, Nat.reducePow, Nat.reduceBEq, boxIds, aResults, aResult, outAs, tupA, evNilCheck, aMove, MD, opds, evOp, asOper, one, two, evCallee, evAssign, aNew, evSlice, evField, evExtract, evFunc, pureOp, isCall, readOp, List.range', back, putBack, fuelR, closed, aStore, thawCells, place, pack, mapO, Nat.reduceEqDiff, Nat.reduceLT, maxNeed, i64_id, frzA, frzAs, memD, lentA, footC, ↓conv_slb_to, ↓conv_slb_from, ↓conv_sls_to, ↓conv_sls_from, ↓conv_sls_both, LE, hpos, ↓kd3, ↓kd4, ↓kd5, ↓kd6]

theorem ex_DrawAddEdge (c0 : List UInt8) (hc0 : c0.length ≤ 4294967296) : ∃ (al st : Int) (es : List Edge) (a b d : Int), es.length ≤ 80000 ∧ ∀ (R : Type) (L n : Nat) (hq : H) (k : A → H → Option R), 16 ≤ n → 2 ^ 60 ≤ L → kCall env (evCall env L n) hq 41 [.d (.ivs c0.length (bytesL c0))] k = k (.tup [.agg [.d (.int .i64 al), .d (.int .i64 st), .d (.ivs es.length (edgesD es))], .agg [.d (.int .i64 a), .d (.int .i64 b), .d (.int .i64 d)]]) hq := by
  have hc := src_len c0
  generalize hcs : src c0 = c at hc
  obtain ⟨al, st, es, q, g1, g2, g3, kd1⟩ := ex_l2Any hc 0 (by omega) (by omega)
  obtain ⟨a, b, d, q2, q5, q6, kd2⟩ := ex_l17Edge hc al st es (by omega) q (by omega) (by omega)
  refine ⟨al, st, es, a, b, d, g1, fun R L n hq k hn hL => kCall_still rfl ?_ rfl (.inr rfl)⟩
  have kd_a := fun {R : Type} {hq : H} {k : A → H → Option R} {i : Nat} {L n : Nat} => @kd_any L n _ _ _ _ _ _ _ rfl rfl kd1 R hq k i
  have kd_b := fun {R : Type} {hq : H} {k : A → H → Option R} {i : Nat} {L n : Nat} => @kd_any L n _ _ _ _ _ _ _ rfl rfl kd2 R hq k i
  clear kd1 kd2
  obtain ⟨n, rfl⟩ : ∃ m, n = m + 1 := ⟨n - 1, by omega⟩
  rw [fn_s_DrawAddEdge]
  simp only [S_s_DrawAddEdge, Try.f41, slimF, slimL, lpOf, codeOf, Option.getD_some, slim, loops, List.length_nil, Nat.add_zero, Nat.zero_add, slimO, slimG, List.map_cons, List.map_nil, List.getElem?_cons_zero, List.getElem?_cons_succ, Option.bind_some, Bool.false_eq_true, if_false, if_true, List.length_cons, List.replicate, List.cons_append, List.nil_append, List.append_nil, Nat.reduceAdd, Nat.reduceSub, List.getD_cons_zero, List.getD_cons_succ]
  simp -implicitDefEqProofs (maxSteps := 2000000) (disch := first | assumption | (refine Shut.mk ?_; kernel_rfl) | omega | (simp only [List.getElem?_cons_zero, List.getElem?_cons_succ]; done) | (simp only [List.length_append, List.length_cons, List.length_nil, List.length_set, List.length_replicate, List.length_map, List.length_take, List.length_drop] <;> omega) | (fail)) only [↓WD, ↓kAsg, ↓kRet, ↓reduceIte, ↓clash_free, ↓WDD, ↓kOpD_callv, WK, thawAt, evPick, aPut, leavesBody, outA, outS, outSs, idsA, idsL, mapA, calmAs, calmA, calmSl, calmPt, genOf, calmH, calmFrom, calmO, mapAs, maskB, isUndef, tidy, Int.reduceLT, Int.reduceLE, Int.reduceEq, Int.reduceNe, Int.reduceNeg, Int.reduceAdd, Int.reduceSub, Int.reduceMul, Int.reduceToNat, Nat.reduceAdd, Nat.reduceSub, aBuiltin, aAppend, aAppend0, aAppendV, isVec, bears, emptyArr, sliceAs, keeps, aBuildVec, aMakeVec, sliceCells, aBuildSlice, aIndexAddr, aLoad, runOf, ofCells, TY, LB, aLen, withInt, fillA, frzL, listWith, frz, frz0, deep, cellsA, setRun, okCell, List.replicate, notJunk, Nat.reduceMul, Nat.reduceLeDiff, Nat.reducePow, Nat.reduceBEq, boxIds, aResults, aResult, outAs, tupA, evNilCheck, aMove, MD, opds, evOp, asOper, one, two, evCallee, evAssign, aNew, evSlice, evField, evExtract, evFunc, pureOp, isCall, readOp, List.range', back, putBack, fuelR, closed, aStore, thawCells, place, pack, mapO, Nat.reduceEqDiff, Nat.reduceLT, maxNeed, i64_id, frzA, frzAs, memD, lentA, footC, ↓conv_slb_to, ↓conv_slb_from, ↓conv_sls_to, ↓conv_sls_from, ↓conv_sls_both, LE, ↓kc_openA, hcs, ↓kd_a, ↓kd_b]

end Ev
end Go.Proofs.Ytidobgmklcbcpaa
