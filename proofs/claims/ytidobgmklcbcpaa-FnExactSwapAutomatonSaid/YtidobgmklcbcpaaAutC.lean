/-
  Copies of automata, laid in memory by the laws' own functions.
-/
import Derived.Test.YtidobgmklcbcpaaAutM
import Derived.Test.YtidobgmklcbcpaaShTo
set_option linter.unusedSimpArgs false
set_option linter.unusedVariables false
set_option maxRecDepth 8000
set_option pp.maxSteps 6000
set_option maxHeartbeats 4000000
namespace Go.Proofs.Ytidobgmklcbcpaa
namespace Ev

theorem map_map_vec {b n : Nat} {rs : List (List Int)} (hn : n = rs.length + 1) : ((O.vec (refsV 1 rs ++ nilsA 0) 1 0 :: rowsO rs).map (mapO (back [] 0 n))).map (mapO (back [] b n)) = .vec (refsV (b + 1) rs ++ nilsA 0) 1 0 :: rowsO rs := by
  subst hn
  simp only [List.map_cons, rows_map]
  rw [map_vec (f := back [] 0 (rs.length + 1)) (b := 1) (d := 1) fun i hi => by rw [back_new (by omega), Nat.zero_add]]
  rw [map_vec (f := back [] b (rs.length + 1)) (b := 1) (d := b + 1) fun i hi => by rw [back_new (by omega)]; congr 1; omega]

theorem kc_toIntSS {R : Type} {L n : Nat} {hq : H} {k : A → H → Option R} (hn : 4 ≤ n) (rs : List (List Int)) (hs : rowsShort rs) (hL : 2 ^ 60 ≤ L) : kCall env (evCall env L n) hq 94 [.d (.ivs rs.length (rowsD rs))] k = k (.sl hq.length 0 0 rs.length) (hq ++ (.vec (refsV (hq.length + 1) rs ++ nilsA 0) 1 0 :: rowsO rs)) := by
  rw [kCall_new rfl mode_toIntSS (ev_toIntSS hn rs hs hL), rowsO_len, map_map_vec rfl]
  simp only [mapA, back_new (b := 0) (n := rs.length + 1) (i := 0) (by omega), back_new (b := hq.length) (n := rs.length + 1) (i := 0) (by omega), Nat.add_zero]

theorem ev_toAutomaton {L n : Nat} (hn : 5 ≤ n) (al : Int) (rs : List (List Int)) (ac : List Bool) (hs : rowsShort rs) (ha : ac.length ≤ 4294967296) (hL : 2 ^ 60 ≤ L) : evCall env L n 34 [.agg [.d (.int .i64 al), .d (.ivs rs.length (rowsD rs)), .d (.ivs ac.length (bools ac))]] [] = some (autA 0 al rs.length ac.length, autO 0 rs ac) := by
  have hrl := hs.1
  unfold autA autO
  obtain ⟨n, rfl⟩ : ∃ m, n = m + 1 := ⟨n - 1, by omega⟩
  rw [fn_toAutomaton]
  simp only [S_toAutomaton, Try.f34, slimF, slimL, lpOf, codeOf, Option.getD_some, slim, loops, List.length_nil, Nat.add_zero, Nat.zero_add, slimO, slimG, List.map_cons, List.map_nil, List.getElem?_cons_zero, List.getElem?_cons_succ, Option.bind_some, Bool.false_eq_true, if_false, if_true, List.length_cons, List.replicate, List.cons_append, List.nil_append, List.append_nil, Nat.reduceAdd, Nat.reduceSub, List.getD_cons_zero, List.getD_cons_succ]
  simp -implicitDefEqProofs (maxSteps := 2000000) (disch := first | assumption | (refine Shut.mk ?_; kernel_rfl) | omega | (simp only [List.getElem?_cons_zero, List.getElem?_cons_succ]; done) | (simp only [List.length_append, List.length_cons, List.length_nil, List.length_set, List.length_replicate, List.length_map, List.length_take, List.length_drop] <;> omega)) only [↓WD, ↓kAsg, ↓kRet, ↓reduceIte, ↓clash_free, ↓WDD, ↓kOpD_callv, WK, thawAt, evPick, aPut, leavesBody, outA, outS, outSs, idsA, idsL, mapA, calmAs, calmA, calmSl, calmPt, genOf, calmH, calmFrom, calmO, mapAs, maskB, isUndef, tidy, Int.reduceLT, Int.reduceLE, Int.reduceEq, Int.reduceNe, Int.reduceNeg, Int.reduceAdd, Int.reduceSub, Int.reduceMul, Int.reduceToNat, Nat.reduceAdd, Nat.reduceSub, aBuiltin, aAppend, aAppend0, aAppendV, isVec, bears, emptyArr, sliceAs, keeps, aBuildVec, aMakeVec, sliceCells, aBuildSlice, aIndexAddr, aLoad, runOf, ofCells, TY, LB, aLen, withInt, fillA, frzL, listWith, frz, frz0, deep, cellsA, setRun, okCell, List.replicate, notJunk, Nat.reduceMul, Nat.reduceLeDiff, Nat.reducePow, Nat.reduceBEq, boxIds, aResults, aResult, outAs, tupA, evNilCheck, aMove, MD, opds, evOp, asOper, one, two, evCallee, evAssign, aNew, evSlice, evField, evExtract, evFunc, pureOp, isCall, readOp, List.range', back, putBack, fuelR, closed, aStore, thawCells, place, pack, mapO, Nat.reduceEqDiff, Nat.reduceLT, maxNeed, i64_id, frzA, frzAs, memD, lentA, footC, ↓kc_toIntSS, ↓kc_toBoolS, LA, rowsO_len, ↓keep_toG, ↓trim_toG, z0As, z0A, eq_self, is_toG_eq, ren_toG_7, ren_toG_e0]

end Ev
end Go.Proofs.Ytidobgmklcbcpaa
