/-
  The law: the program's AddEdge and the reference's answer the same, and share no memory.
-/
import Derived.Test.YtidobgmklcbcpaaAddL
import Derived.Test.YtidobgmklcbcpaaFnExactDropEdge
set_option linter.unusedSimpArgs false
set_option linter.unusedVariables false
set_option maxRecDepth 8000
set_option pp.maxSteps 6000
set_option maxHeartbeats 4000000
namespace Go.Proofs.Ytidobgmklcbcpaa
namespace Ev

theorem kc_s_AddEdge_r {R : Type} {L n id : Nat} {hq : H} {k : A → H → Option R} (hn : 6 ≤ n) (al st a b c : Int) (l : List Edge) (hi : hq[id]? = some (.arr (edgesD l) 3 0)) (hl : l.length ≤ 4294967290) (hL : 2 ^ 60 ≤ L) : kCall env (evCall env L n) hq 39 [.agg [.d (.int .i64 al), .d (.int .i64 st), .sl id 0 0 l.length], .agg [.d (.int .i64 a), .d (.int .i64 b), .d (.int .i64 c)]] k = k (.tup [.agg [.d (.int .i64 (oS (addS ⟨al, st, l⟩ ⟨a, b, c⟩)).al), .d (.int .i64 (oS (addS ⟨al, st, l⟩ ⟨a, b, c⟩)).st), .d (.ivs (oS (addS ⟨al, st, l⟩ ⟨a, b, c⟩)).es.length (edgesD (oS (addS ⟨al, st, l⟩ ⟨a, b, c⟩)).es))], .d (.bool (addS ⟨al, st, l⟩ ⟨a, b, c⟩).isSome)]) (hq.set id (.ice (edgesD l) 3 0)) :=
  kCall_frz1 hi (by simp [idsL, idsA]) mode_s_AddEdge rfl (frz_sys rfl) (ev_s_AddEdge hn al st a b c l hl hL)

theorem clean_edgesA : ∀ l : List Edge, (edgesD l).all cleanD = true
  | [] => rfl
  | e :: l => by rw [edgesD_cons]; simp [cleanD, clean_edgesA l]

theorem kc_i_AddEdge {R : Type} {L n id : Nat} {hq : H} {k : A → H → Option R} (hn : 7 ≤ n) (al st a b c : Int) (l : List Edge) (hi : hq[id]? = some (.arr (edgesD l) 3 0)) (hl : l.length ≤ 4294967290) (hL : 2 ^ 60 ≤ L) :
    kCall env (evCall env L n) hq 40 [.agg [.d (.int .i64 al), .d (.int .i64 st), .sl id 0 0 l.length], .agg [.d (.int .i64 a), .d (.int .i64 b), .d (.int .i64 c)]] k
    = k (.tup [.agg [.d (.int .i64 (oS (addS ⟨al, st, l⟩ ⟨a, b, c⟩)).al), .d (.int .i64 (oS (addS ⟨al, st, l⟩ ⟨a, b, c⟩)).st), .sl hq.length 0 0 (oS (addS ⟨al, st, l⟩ ⟨a, b, c⟩)).es.length], .d (.bool (addS ⟨al, st, l⟩ ⟨a, b, c⟩).isSome)]) (hq ++ [.arr (edgesD (oS (addS ⟨al, st, l⟩ ⟨a, b, c⟩)).es) (oZ (addS ⟨al, st, l⟩ ⟨a, b, c⟩)) 0]) := by
  rw [kCall_lay1 hi (by simp [idsL, idsA]) mode_i_AddEdge (frz_sys rfl) (ev_i_AddEdge hn al st a b c l hl hL _ (add_same _ _)) (by simp only [cleanA, cleanAs, cleanD, cleanO, clean_edgesA, Bool.and_self])]
  simp [mapA, mapAs, back, mapO]

theorem marks_takeA {z : Nat} {c : Int} : (edgesD (marks z c)).take (z * 3) = edgesD (marks z c) := edges_take (by rw [marks_len]; exact Nat.le_refl _)

theorem ev_FnExactAddEdge {L n : Nat} (hn : 20 ≤ n) (al st a b c : Int) (l : List Edge) (hl : l.length ≤ 9223372036854775807) (hL : 2 ^ 60 ≤ L) : evCall env L n 9 [.agg [.d (.int .i64 al), .d (.int .i64 st), .d (.ivs l.length (edgesD l))], .agg [.d (.int .i64 a), .d (.int .i64 b), .d (.int .i64 c)]] [] = some (.d (.bool true), []) := by
  by_cases h : (1048576 : Int) < l.length
  · obtain ⟨n, rfl⟩ : ∃ m, n = m + 1 := ⟨n - 1, by omega⟩
    rw [fn_FnExactAddEdge]
    simp only [S_FnExactAddEdge, Try.f9, slimF, slimL, lpOf, codeOf, Option.getD_some, slim, loops, List.length_nil, Nat.add_zero, Nat.zero_add, slimO, slimG, List.map_cons, List.map_nil, List.getElem?_cons_zero, List.getElem?_cons_succ, Option.bind_some, Bool.false_eq_true, if_false, if_true, List.length_cons, List.replicate, List.cons_append, List.nil_append, List.append_nil, Nat.reduceAdd, Nat.reduceSub, List.getD_cons_zero, List.getD_cons_succ]
    simp -implicitDefEqProofs (maxSteps := 2000000) (disch := first | assumption | (refine Shut.mk ?_; kernel_rfl) | omega | (simp only [List.getElem?_cons_zero, List.getElem?_cons_succ]; done) | (simp only [List.length_append, List.length_cons, List.length_nil, List.length_set, List.length_replicate, List.length_map, List.length_take, List.length_drop] <;> omega) | (fail)) only [↓WD, ↓kAsg, ↓kRet, ↓reduceIte, ↓clash_free, ↓WDD, ↓kOpD_callv, WK, thawAt, evPick, aPut, leavesBody, outA, outS, outSs, idsA, idsL, mapA, calmAs, calmA, calmSl, calmPt, genOf, calmH, calmFrom, calmO, mapAs, maskB, isUndef, tidy, Int.reduceLT, Int.reduceLE, Int.reduceEq, Int.reduceNe, Int.reduceNeg, Int.reduceAdd, Int.reduceSub, Int.reduceMul, Int.reduceToNat, Nat.reduceAdd, Nat.reduceSub, aBuiltin, aAppend, aAppend0, aAppendV, isVec, bears, emptyArr, sliceAs, keeps, aBuildVec, aMakeVec, sliceCells, aBuildSlice, aIndexAddr, aLoad, runOf, ofCells, TY, LB, aLen, withInt, fillA, frzL, listWith, frz, frz0, deep, cellsA, setRun, okCell, List.replicate, notJunk, Nat.reduceMul, Nat.reduceLeDiff, Nat.reducePow, Nat.reduceBEq, boxIds, aResults, aResult, outAs, tupA, evNilCheck, aMove, MD, opds, evOp, asOper, one, two, evCallee, evAssign, aNew, evSlice, evField, evExtract, evFunc, pureOp, isCall, readOp, List.range', back, putBack, fuelR, closed, aStore, thawCells, place, pack, mapO, Nat.reduceEqDiff, Nat.reduceLT, maxNeed, i64_id, frzA, frzAs, memD, lentA, footC, ↓conv_slb_to, ↓conv_slb_from, ↓conv_sls_to, ↓conv_sls_from, ↓conv_sls_both, ↓kc_szSystem, ↓kc_toSystem, ↓kc_toEdge, ↓kc_s_AddEdge, ↓kc_eqSystem, ↓kc_markSystem, ↓kc_heldSystem, ↓kl_szSystem, ↓kl_eqSystem, ↓kl_heldSystem, ↓kv_szSystem_1, ↓kv_eqSystem_1, ↓kv_eqSystem_2, ↓kv_eqSystem_3, ↓kv_heldSystem_1, LE, ↓kc_s_AddEdge_r, ↓kc_i_AddEdge, ↓kc_markSystem_nil0, ↓kv_eqSystem_any, ↓kl_eqSystem_nil, ↓kl_heldSystem_nil, h]
  · have h2 : ¬ (1048576 : Int) - (l.length : Int) < 0 := by omega
    have hl2 : l.length ≤ 4294967290 := by omega
    have hl3 : l.length ≤ 4294967296 := by omega
    have h3 : ¬ 1 + 3 * (l.length : Int) < 0 := by omega
    cases hd : addS ⟨al, st, l⟩ ⟨a, b, c⟩ with
    | none =>
      obtain ⟨n, rfl⟩ : ∃ m, n = m + 1 := ⟨n - 1, by omega⟩
      rw [fn_FnExactAddEdge]
      simp only [S_FnExactAddEdge, Try.f9, slimF, slimL, lpOf, codeOf, Option.getD_some, slim, loops, List.length_nil, Nat.add_zero, Nat.zero_add, slimO, slimG, List.map_cons, List.map_nil, List.getElem?_cons_zero, List.getElem?_cons_succ, Option.bind_some, Bool.false_eq_true, if_false, if_true, List.length_cons, List.replicate, List.cons_append, List.nil_append, List.append_nil, Nat.reduceAdd, Nat.reduceSub, List.getD_cons_zero, List.getD_cons_succ]
      simp -implicitDefEqProofs (maxSteps := 2000000) (disch := first | assumption | (refine Shut.mk ?_; kernel_rfl) | omega | (simp only [List.getElem?_cons_zero, List.getElem?_cons_succ]; done) | (simp only [List.length_append, List.length_cons, List.length_nil, List.length_set, List.length_replicate, List.length_map, List.length_take, List.length_drop] <;> omega) | (fail)) only [↓WD, ↓kAsg, ↓kRet, ↓reduceIte, ↓clash_free, ↓WDD, ↓kOpD_callv, WK, thawAt, evPick, aPut, leavesBody, outA, outS, outSs, idsA, idsL, mapA, calmAs, calmA, calmSl, calmPt, genOf, calmH, calmFrom, calmO, mapAs, maskB, isUndef, tidy, Int.reduceLT, Int.reduceLE, Int.reduceEq, Int.reduceNe, Int.reduceNeg, Int.reduceAdd, Int.reduceSub, Int.reduceMul, Int.reduceToNat, Nat.reduceAdd, Nat.reduceSub, aBuiltin, aAppend, aAppend0, aAppendV, isVec, bears, emptyArr, sliceAs, keeps, aBuildVec, aMakeVec, sliceCells, aBuildSlice, aIndexAddr, aLoad, runOf, ofCells, TY, LB, aLen, withInt, fillA, frzL, listWith, frz, frz0, deep, cellsA, setRun, okCell, List.replicate, notJunk, Nat.reduceMul, Nat.reduceLeDiff, Nat.reducePow, Nat.reduceBEq, boxIds, aResults, aResult, outAs, tupA, evNilCheck, aMove, MD, opds, evOp, asOper, one, two, evCallee, evAssign, aNew, evSlice, evField, evExtract, evFunc, pureOp, isCall, readOp, List.range', back, putBack, fuelR, closed, aStore, thawCells, place, pack, mapO, Nat.reduceEqDiff, Nat.reduceLT, maxNeed, i64_id, frzA, frzAs, memD, lentA, footC, ↓conv_slb_to, ↓conv_slb_from, ↓conv_sls_to, ↓conv_sls_from, ↓conv_sls_both, ↓kc_szSystem, ↓kc_toSystem, ↓kc_toEdge, ↓kc_s_AddEdge, ↓kc_eqSystem, ↓kc_markSystem, ↓kc_heldSystem, ↓kl_szSystem, ↓kl_eqSystem, ↓kl_heldSystem, ↓kv_szSystem_1, ↓kv_eqSystem_1, ↓kv_eqSystem_2, ↓kv_eqSystem_3, ↓kv_heldSystem_1, LE, ↓kc_s_AddEdge_r, ↓kc_i_AddEdge, ↓kc_markSystem_nil0, ↓kv_eqSystem_any, ↓kl_eqSystem_nil, ↓kl_heldSystem_nil, h, h2, h3, hd, oS_none, oZ_none, edgesD_nil]
    | some s =>
      have hsl : s.es.length ≤ l.length + 1 := by
        unfold addS at hd
        split at hd
        · cases hd; simp [sortE_len]
        · cases hd
      have hsl2 : s.es.length ≤ 4294967296 := by omega
      have h4 : ¬ 1 + 3 * (s.es.length : Int) < 0 := by omega
      clear hsl
      obtain ⟨n, rfl⟩ : ∃ m, n = m + 1 := ⟨n - 1, by omega⟩
      rw [fn_FnExactAddEdge]
      simp only [S_FnExactAddEdge, Try.f9, slimF, slimL, lpOf, codeOf, Option.getD_some, slim, loops, List.length_nil, Nat.add_zero, Nat.zero_add, slimO, slimG, List.map_cons, List.map_nil, List.getElem?_cons_zero, List.getElem?_cons_succ, Option.bind_some, Bool.false_eq_true, if_false, if_true, List.length_cons, List.replicate, List.cons_append, List.nil_append, List.append_nil, Nat.reduceAdd, Nat.reduceSub, List.getD_cons_zero, List.getD_cons_succ]
      simp -implicitDefEqProofs (maxSteps := 2000000) (disch := first | assumption | (refine Shut.mk ?_; kernel_rfl) | omega | (simp only [List.getElem?_cons_zero, List.getElem?_cons_succ]; done) | (simp only [List.length_append, List.length_cons, List.length_nil, List.length_set, List.length_replicate, List.length_map, List.length_take, List.length_drop] <;> omega) | (fail)) only [↓WD, ↓kAsg, ↓kRet, ↓reduceIte, ↓clash_free, ↓WDD, ↓kOpD_callv, WK, thawAt, evPick, aPut, leavesBody, outA, outS, outSs, idsA, idsL, mapA, calmAs, calmA, calmSl, calmPt, genOf, calmH, calmFrom, calmO, mapAs, maskB, isUndef, tidy, Int.reduceLT, Int.reduceLE, Int.reduceEq, Int.reduceNe, Int.reduceNeg, Int.reduceAdd, Int.reduceSub, Int.reduceMul, Int.reduceToNat, Nat.reduceAdd, Nat.reduceSub, aBuiltin, aAppend, aAppend0, aAppendV, isVec, bears, emptyArr, sliceAs, keeps, aBuildVec, aMakeVec, sliceCells, aBuildSlice, aIndexAddr, aLoad, runOf, ofCells, TY, LB, aLen, withInt, fillA, frzL, listWith, frz, frz0, deep, cellsA, setRun, okCell, List.replicate, notJunk, Nat.reduceMul, Nat.reduceLeDiff, Nat.reducePow, Nat.reduceBEq, boxIds, aResults, aResult, outAs, tupA, evNilCheck, aMove, MD, opds, evOp, asOper, one, two, evCallee, evAssign, aNew, evSlice, evField, evExtract, evFunc, pureOp, isCall, readOp, List.range', back, putBack, fuelR, closed, aStore, thawCells, place, pack, mapO, Nat.reduceEqDiff, Nat.reduceLT, maxNeed, i64_id, frzA, frzAs, memD, lentA, footC, ↓conv_slb_to, ↓conv_slb_from, ↓conv_sls_to, ↓conv_sls_from, ↓conv_sls_both, ↓kc_szSystem, ↓kc_toSystem, ↓kc_toEdge, ↓kc_s_AddEdge, ↓kc_eqSystem, ↓kc_markSystem, ↓kc_heldSystem, ↓kl_szSystem, ↓kl_eqSystem, ↓kl_heldSystem, ↓kv_szSystem_1, ↓kv_eqSystem_1, ↓kv_eqSystem_2, ↓kv_eqSystem_3, ↓kv_heldSystem_1, LE, h4, ↓kc_s_AddEdge_r, ↓kc_i_AddEdge, ↓kc_markSystem_nil0, ↓kv_eqSystem_any, ↓kl_eqSystem_nil, ↓kl_heldSystem_nil, h, h2, h3, hd, marks_len, marks_takeA, oS_some, oZ_some]

end Ev
end Go.Proofs.Ytidobgmklcbcpaa
