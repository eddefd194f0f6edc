/-
  The law: an edge can be added or dropped, not both, just when it fits the system.
-/
import Derived.Test.YtidobgmklcbcpaaAgS
import Derived.Test.YtidobgmklcbcpaaDrawE
set_option linter.unusedSimpArgs false
set_option linter.unusedVariables false
set_option maxRecDepth 8000
set_option pp.maxSteps 6000
set_option maxHeartbeats 4000000
namespace Go.Proofs.Ytidobgmklcbcpaa
namespace Ev

/-- A system with one edge. -/
theorem sysOK_one {al st : Int} {l : List Edge} {e : Edge} (h : sysOK ⟨al, st, l⟩ = true) : sysOK ⟨al, st, [e]⟩ = edgeOK al st e := by
  have h' := h
  unfold sysOK at h'
  simp only [Bool.and_eq_true, decide_eq_true_eq] at h'
  cases hq : edgeOK al st e with
  | false =>
    cases hp : sysOK ⟨al, st, [e]⟩ with
    | false => rfl
    | true => have := sysOK_edge hp (e := e) (by simp); rw [hq] at this; cases this
  | true =>
    refine sysOK_of h'.1.1.1 h'.1.1.2 h'.1.2 (fun x hx => ?_) (by unfold SortedE; simp)
    simp only [List.mem_singleton] at hx
    subst hx; exact hq

/-- What the law says of two answers. -/
theorem edge_once {al st : Int} {l : List Edge} {e : Edge} (h : sysOK ⟨al, st, l⟩ = true) :
    (addS ⟨al, st, l⟩ e).isSome = (edgeOK al st e && !hitE l e) ∧ (dropI ⟨al, st, l⟩ e).isSome = hitE l e ∧ (hitE l e = true → edgeOK al st e = true) := by
  have hs : SortedE l := sysOK_sorted h
  refine ⟨?_, ?_, fun hh => ?_⟩
  · unfold addS
    cases h2 : hitE l e with
    | true => simp [h, hit_some hs h2]
    | false => simp [h, hit_none hs h2]; cases edgeOK al st e <;> simp
  · unfold dropI
    cases h2 : hitE l e <;> simp [h, h2]
  · have h3 : bsE l e < l.length ∧ l.getD (bsE l e) default = e := by
      unfold hitE at hh
      simp only [Bool.and_eq_true, decide_eq_true_eq] at hh
      exact hh
    refine sysOK_edge h ?_
    show e ∈ l
    rw [← h3.2, List.getD_eq_getElem?_getD, List.getElem?_eq_getElem h3.1]
    exact List.getElem_mem h3.1

theorem kl_i_SystemValid_one {R : Type} {L n : Nat} {k : A → Option R} (hn : 6 ≤ n) (al st a b c : Int) (hL : 2 ^ 60 ≤ L) : kLent (evCall env L n) 43 [.agg [.d (.int .i64 al), .d (.int .i64 st), .d (.ivs 1 [.int .i64 a, .int .i64 b, .int .i64 c])]] k = k (.d (.bool (sysOK ⟨al, st, [⟨a, b, c⟩]⟩))) :=
  kl_i_SystemValid (n := n) hn al st [⟨a, b, c⟩] (by simp) hL

theorem ev_FnEdgeOnce {L n : Nat} (hn : 30 ≤ n) (c : List UInt8) (hL : 2 ^ 60 ≤ L) : evCall env L n 10 [.d (.ivs c.length (bytesL c))] [] = some (.d (.bool true), []) := by
  by_cases hs : (1048576 : Int) < c.length
  · obtain ⟨n, rfl⟩ : ∃ m, n = m + 1 := ⟨n - 1, by omega⟩
    rw [fn_FnEdgeOnce]
    simp only [S_FnEdgeOnce, Try.f10, slimF, slimL, lpOf, codeOf, Option.getD_some, slim, loops, List.length_nil, Nat.add_zero, Nat.zero_add, slimO, slimG, List.map_cons, List.map_nil, List.getElem?_cons_zero, List.getElem?_cons_succ, Option.bind_some, Bool.false_eq_true, if_false, if_true, List.length_cons, List.replicate, List.cons_append, List.nil_append, List.append_nil, Nat.reduceAdd, Nat.reduceSub, List.getD_cons_zero, List.getD_cons_succ]
    simp -implicitDefEqProofs (maxSteps := 2000000) (disch := first | assumption | (refine Shut.mk ?_; kernel_rfl) | omega | (simp only [List.getElem?_cons_zero, List.getElem?_cons_succ]; done) | (simp only [List.length_append, List.length_cons, List.length_nil, List.length_set, List.length_replicate, List.length_map, List.length_take, List.length_drop] <;> omega) | (fail)) only [↓WD, ↓kAsg, ↓kRet, ↓reduceIte, ↓clash_free, ↓WDD, ↓kOpD_callv, WK, thawAt, evPick, aPut, leavesBody, outA, outS, outSs, idsA, idsL, mapA, calmAs, calmA, calmSl, calmPt, genOf, calmH, calmFrom, calmO, mapAs, maskB, isUndef, tidy, Int.reduceLT, Int.reduceLE, Int.reduceEq, Int.reduceNe, Int.reduceNeg, Int.reduceAdd, Int.reduceSub, Int.reduceMul, Int.reduceToNat, Nat.reduceAdd, Nat.reduceSub, aBuiltin, aAppend, aAppend0, aAppendV, isVec, bears, emptyArr, sliceAs, keeps, aBuildVec, aMakeVec, sliceCells, aBuildSlice, aIndexAddr, aLoad, runOf, ofCells, TY, LB, aLen, withInt, fillA, frzL, listWith, frz, frz0, deep, cellsA, setRun, okCell, List.replicate, notJunk, Nat.reduceMul, Nat.reduceLeDiff, Nat.reducePow, Nat.reduceBEq, boxIds, aResults, aResult, outAs, tupA, evNilCheck, aMove, MD, opds, evOp, asOper, one, two, evCallee, evAssign, aNew, evSlice, evField, evExtract, evFunc, pureOp, isCall, readOp, List.range', back, putBack, fuelR, closed, aStore, thawCells, place, pack, mapO, Nat.reduceEqDiff, Nat.reduceLT, maxNeed, i64_id, frzA, frzAs, memD, lentA, footC, ↓conv_slb_to, ↓conv_slb_from, ↓conv_sls_to, ↓conv_sls_from, ↓conv_sls_both, ↓kc_i_AddEdge, ↓kc_s_AddEdge, ↓kc_agSystems, ↓kc_i_SystemValid, ↓kc_i_DropEdge, ↓kl_agSystems, ↓kl_i_SystemValid, ↓kv_agSystems_1, ↓kv_agSystems_2, ↓kv_agSystems_3, ↓kv_i_SystemValid_1, hs]
  · obtain ⟨al, st, l, a, b, d, hl, kd⟩ := ex_DrawAddEdge c (by omega)
    have hl1 : l.length ≤ 4294967290 := by omega
    have hl2 : l.length ≤ 4294967296 := by omega
    cases hv : sysOK ⟨al, st, l⟩ with
    | false =>
      have hd : addS ⟨al, st, l⟩ ⟨a, b, d⟩ = none := by unfold addS; rw [hv]; rfl
      obtain ⟨n, rfl⟩ : ∃ m, n = m + 1 := ⟨n - 1, by omega⟩
      rw [fn_FnEdgeOnce]
      simp only [S_FnEdgeOnce, Try.f10, slimF, slimL, lpOf, codeOf, Option.getD_some, slim, loops, List.length_nil, Nat.add_zero, Nat.zero_add, slimO, slimG, List.map_cons, List.map_nil, List.getElem?_cons_zero, List.getElem?_cons_succ, Option.bind_some, Bool.false_eq_true, if_false, if_true, List.length_cons, List.replicate, List.cons_append, List.nil_append, List.append_nil, Nat.reduceAdd, Nat.reduceSub, List.getD_cons_zero, List.getD_cons_succ]
      simp -implicitDefEqProofs (maxSteps := 2000000) (disch := first | assumption | (refine Shut.mk ?_; kernel_rfl) | omega | (simp only [List.getElem?_cons_zero, List.getElem?_cons_succ]; done) | (simp only [List.length_append, List.length_cons, List.length_nil, List.length_set, List.length_replicate, List.length_map, List.length_take, List.length_drop] <;> omega) | (fail)) only [↓WD, ↓kAsg, ↓kRet, ↓reduceIte, ↓clash_free, ↓WDD, ↓kOpD_callv, WK, thawAt, evPick, aPut, leavesBody, outA, outS, outSs, idsA, idsL, mapA, calmAs, calmA, calmSl, calmPt, genOf, calmH, calmFrom, calmO, mapAs, maskB, isUndef, tidy, Int.reduceLT, Int.reduceLE, Int.reduceEq, Int.reduceNe, Int.reduceNeg, Int.reduceAdd, Int.reduceSub, Int.reduceMul, Int.reduceToNat, Nat.reduceAdd, Nat.reduceSub, aBuiltin, aAppend, aAppend0, aAppendV, isVec, bears, emptyArr, sliceAs, keeps, aBuildVec, aMakeVec, sliceCells, aBuildSlice, aIndexAddr, aLoad, runOf, ofCells, TY, LB, aLen, withInt, fillA, frzL, listWith, frz, frz0, deep, cellsA, setRun, okCell, List.replicate, notJunk, Nat.reduceMul, Nat.reduceLeDiff, Nat.reducePow, Nat.reduceBEq, boxIds, aResults, aResult, outAs, tupA, evNilCheck, aMove, MD, opds, evOp, asOper, one, two, evCallee, evAssign, aNew, evSlice, evField, evExtract, evFunc, pureOp, isCall, readOp, List.range', back, putBack, fuelR, closed, aStore, thawCells, place, pack, mapO, Nat.reduceEqDiff, Nat.reduceLT, maxNeed, i64_id, frzA, frzAs, memD, lentA, footC, ↓conv_slb_to, ↓conv_slb_from, ↓conv_sls_to, ↓conv_sls_from, ↓conv_sls_both, ↓kc_i_AddEdge, ↓kc_s_AddEdge, ↓kc_agSystems, ↓kc_i_SystemValid, ↓kc_i_DropEdge, ↓kl_agSystems, ↓kl_i_SystemValid, ↓kv_agSystems_1, ↓kv_agSystems_2, ↓kv_agSystems_3, ↓kv_i_SystemValid_1, LE, hs, ↓kd, ↓kc_i_AddEdge_d, ↓kc_i_DropEdge_d, ↓kl_i_SystemValid_one, ↓kv_agSystems_any, ↓kl_agSystems_nil, hd, hv, oS_none, oZ_none, edgesD_nil]
    | true =>
      obtain ⟨e1, e2, e3⟩ := edge_once (e := ⟨a, b, d⟩) hv
      have e4 := sysOK_one (e := ⟨a, b, d⟩) hv
      cases hh : hitE l ⟨a, b, d⟩ with
      | true =>
        have ho := e3 hh
        rw [hh, ho] at e1
        rw [hh] at e2
        rw [ho] at e4
        have hd := Option.isNone_iff_eq_none.1 (by rw [← Option.not_isSome, e1]; rfl)
        obtain ⟨s2, hd2⟩ := Option.isSome_iff_exists.1 e2
        clear e1 e2 e3 hh ho
        obtain ⟨n, rfl⟩ : ∃ m, n = m + 1 := ⟨n - 1, by omega⟩
        rw [fn_FnEdgeOnce]
        simp only [S_FnEdgeOnce, Try.f10, slimF, slimL, lpOf, codeOf, Option.getD_some, slim, loops, List.length_nil, Nat.add_zero, Nat.zero_add, slimO, slimG, List.map_cons, List.map_nil, List.getElem?_cons_zero, List.getElem?_cons_succ, Option.bind_some, Bool.false_eq_true, if_false, if_true, List.length_cons, List.replicate, List.cons_append, List.nil_append, List.append_nil, Nat.reduceAdd, Nat.reduceSub, List.getD_cons_zero, List.getD_cons_succ]
        simp -implicitDefEqProofs (maxSteps := 2000000) (disch := first | assumption | (refine Shut.mk ?_; kernel_rfl) | omega | (simp only [List.getElem?_cons_zero, List.getElem?_cons_succ]; done) | (simp only [List.length_append, List.length_cons, List.length_nil, List.length_set, List.length_replicate, List.length_map, List.length_take, List.length_drop] <;> omega) | (fail)) only [↓WD, ↓kAsg, ↓kRet, ↓reduceIte, ↓clash_free, ↓WDD, ↓kOpD_callv, WK, thawAt, evPick, aPut, leavesBody, outA, outS, outSs, idsA, idsL, mapA, calmAs, calmA, calmSl, calmPt, genOf, calmH, calmFrom, calmO, mapAs, maskB, isUndef, tidy, Int.reduceLT, Int.reduceLE, Int.reduceEq, Int.reduceNe, Int.reduceNeg, Int.reduceAdd, Int.reduceSub, Int.reduceMul, Int.reduceToNat, Nat.reduceAdd, Nat.reduceSub, aBuiltin, aAppend, aAppend0, aAppendV, isVec, bears, emptyArr, sliceAs, keeps, aBuildVec, aMakeVec, sliceCells, aBuildSlice, aIndexAddr, aLoad, runOf, ofCells, TY, LB, aLen, withInt, fillA, frzL, listWith, frz, frz0, deep, cellsA, setRun, okCell, List.replicate, notJunk, Nat.reduceMul, Nat.reduceLeDiff, Nat.reducePow, Nat.reduceBEq, boxIds, aResults, aResult, outAs, tupA, evNilCheck, aMove, MD, opds, evOp, asOper, one, two, evCallee, evAssign, aNew, evSlice, evField, evExtract, evFunc, pureOp, isCall, readOp, List.range', back, putBack, fuelR, closed, aStore, thawCells, place, pack, mapO, Nat.reduceEqDiff, Nat.reduceLT, maxNeed, i64_id, frzA, frzAs, memD, lentA, footC, ↓conv_slb_to, ↓conv_slb_from, ↓conv_sls_to, ↓conv_sls_from, ↓conv_sls_both, ↓kc_i_AddEdge, ↓kc_s_AddEdge, ↓kc_agSystems, ↓kc_i_SystemValid, ↓kc_i_DropEdge, ↓kl_agSystems, ↓kl_i_SystemValid, ↓kv_agSystems_1, ↓kv_agSystems_2, ↓kv_agSystems_3, ↓kv_i_SystemValid_1, LE, hs, ↓kd, ↓kc_i_AddEdge_d, ↓kc_i_DropEdge_d, ↓kl_i_SystemValid_one, ↓kv_agSystems_any, ↓kl_agSystems_nil, hd, hd2, e4, hv, oS_none, oZ_none, oS_some, oZ_some, edgesD_nil]
      | false =>
        rw [hh] at e1 e2
        have hd2 := Option.isNone_iff_eq_none.1 (by rw [← Option.not_isSome, e2]; rfl)
        cases ho : edgeOK al st ⟨a, b, d⟩ with
        | false =>
          rw [ho] at e1 e4
          have hd := Option.isNone_iff_eq_none.1 (by rw [← Option.not_isSome, e1]; rfl)
          clear e1 e2 e3 hh ho
          obtain ⟨n, rfl⟩ : ∃ m, n = m + 1 := ⟨n - 1, by omega⟩
          rw [fn_FnEdgeOnce]
          simp only [S_FnEdgeOnce, Try.f10, slimF, slimL, lpOf, codeOf, Option.getD_some, slim, loops, List.length_nil, Nat.add_zero, Nat.zero_add, slimO, slimG, List.map_cons, List.map_nil, List.getElem?_cons_zero, List.getElem?_cons_succ, Option.bind_some, Bool.false_eq_true, if_false, if_true, List.length_cons, List.replicate, List.cons_append, List.nil_append, List.append_nil, Nat.reduceAdd, Nat.reduceSub, List.getD_cons_zero, List.getD_cons_succ]
          simp -implicitDefEqProofs (maxSteps := 2000000) (disch := first | assumption | (refine Shut.mk ?_; kernel_rfl) | omega | (simp only [List.getElem?_cons_zero, List.getElem?_cons_succ]; done) | (simp only [List.length_append, List.length_cons, List.length_nil, List.length_set, List.length_replicate, List.length_map, List.length_take, List.length_drop] <;> omega) | (fail)) only [↓WD, ↓kAsg, ↓kRet, ↓reduceIte, ↓clash_free, ↓WDD, ↓kOpD_callv, WK, thawAt, evPick, aPut, leavesBody, outA, outS, outSs, idsA, idsL, mapA, calmAs, calmA, calmSl, calmPt, genOf, calmH, calmFrom, calmO, mapAs, maskB, isUndef, tidy, Int.reduceLT, Int.reduceLE, Int.reduceEq, Int.reduceNe, Int.reduceNeg, Int.reduceAdd, Int.reduceSub, Int.reduceMul, Int.reduceToNat, Nat.reduceAdd, Nat.reduceSub, aBuiltin, aAppend, aAppend0, aAppendV, isVec, bears, emptyArr, sliceAs, keeps, aBuildVec, aMakeVec, sliceCells, aBuildSlice, aIndexAddr, aLoad, runOf, ofCells, TY, LB, aLen, withInt, fillA, frzL, listWith, frz, frz0, deep, cellsA, setRun, okCell, List.replicate, notJunk, Nat.reduceMul, Nat.reduceLeDiff, Nat.reducePow, Nat.reduceBEq, boxIds, aResults, aResult, outAs, tupA, evNilCheck, aMove, MD, opds, evOp, asOper, one, two, evCallee, evAssign, aNew, evSlice, evField, evExtract, evFunc, pureOp, isCall, readOp, List.range', back, putBack, fuelR, closed, aStore, thawCells, place, pack, mapO, Nat.reduceEqDiff, Nat.reduceLT, maxNeed, i64_id, frzA, frzAs, memD, lentA, footC, ↓conv_slb_to, ↓conv_slb_from, ↓conv_sls_to, ↓conv_sls_from, ↓conv_sls_both, ↓kc_i_AddEdge, ↓kc_s_AddEdge, ↓kc_agSystems, ↓kc_i_SystemValid, ↓kc_i_DropEdge, ↓kl_agSystems, ↓kl_i_SystemValid, ↓kv_agSystems_1, ↓kv_agSystems_2, ↓kv_agSystems_3, ↓kv_i_SystemValid_1, LE, hs, ↓kd, ↓kc_i_AddEdge_d, ↓kc_i_DropEdge_d, ↓kl_i_SystemValid_one, ↓kv_agSystems_any, ↓kl_agSystems_nil, hd, hd2, e4, hv, oS_none, oZ_none, edgesD_nil]
        | true =>
          rw [ho] at e1 e4
          obtain ⟨s, hd⟩ := Option.isSome_iff_exists.1 e1
          have hsl : s.es.length ≤ l.length + 1 := by
            have hd' := hd
            unfold addS at hd'
            split at hd'
            · cases hd'; simp [sortE_len]
            · cases hd'
          have hsl2 : s.es.length ≤ 4294967296 := by omega
          clear e1 e2 e3 hh ho hsl
          obtain ⟨n, rfl⟩ : ∃ m, n = m + 1 := ⟨n - 1, by omega⟩
          rw [fn_FnEdgeOnce]
          simp only [S_FnEdgeOnce, Try.f10, slimF, slimL, lpOf, codeOf, Option.getD_some, slim, loops, List.length_nil, Nat.add_zero, Nat.zero_add, slimO, slimG, List.map_cons, List.map_nil, List.getElem?_cons_zero, List.getElem?_cons_succ, Option.bind_some, Bool.false_eq_true, if_false, if_true, List.length_cons, List.replicate, List.cons_append, List.nil_append, List.append_nil, Nat.reduceAdd, Nat.reduceSub, List.getD_cons_zero, List.getD_cons_succ]
          simp -implicitDefEqProofs (maxSteps := 2000000) (disch := first | assumption | (refine Shut.mk ?_; kernel_rfl) | omega | (simp only [List.getElem?_cons_zero, List.getElem?_cons_succ]; done) | (simp only [List.length_append, List.length_cons, List.length_nil, List.length_set, List.length_replicate, List.length_map, List.length_take, List.length_drop] <;> omega) | (fail)) only [↓WD, ↓kAsg, ↓kRet, ↓reduceIte, ↓clash_free, ↓WDD, ↓kOpD_callv, WK, thawAt, evPick, aPut, leavesBody, outA, outS, outSs, idsA, idsL, mapA, calmAs, calmA, calmSl, calmPt, genOf, calmH, calmFrom, calmO, mapAs, maskB, isUndef, tidy, Int.reduceLT, Int.reduceLE, Int.reduceEq, Int.reduceNe, Int.reduceNeg, Int.reduceAdd, Int.reduceSub, Int.reduceMul, Int.reduceToNat, Nat.reduceAdd, Nat.reduceSub, aBuiltin, aAppend, aAppend0, aAppendV, isVec, bears, emptyArr, sliceAs, keeps, aBuildVec, aMakeVec, sliceCells, aBuildSlice, aIndexAddr, aLoad, runOf, ofCells, TY, LB, aLen, withInt, fillA, frzL, listWith, frz, frz0, deep, cellsA, setRun, okCell, List.replicate, notJunk, Nat.reduceMul, Nat.reduceLeDiff, Nat.reducePow, Nat.reduceBEq, boxIds, aResults, aResult, outAs, tupA, evNilCheck, aMove, MD, opds, evOp, asOper, one, two, evCallee, evAssign, aNew, evSlice, evField, evExtract, evFunc, pureOp, isCall, readOp, List.range', back, putBack, fuelR, closed, aStore, thawCells, place, pack, mapO, Nat.reduceEqDiff, Nat.reduceLT, maxNeed, i64_id, frzA, frzAs, memD, lentA, footC, ↓conv_slb_to, ↓conv_slb_from, ↓conv_sls_to, ↓conv_sls_from, ↓conv_sls_both, ↓kc_i_AddEdge, ↓kc_s_AddEdge, ↓kc_agSystems, ↓kc_i_SystemValid, ↓kc_i_DropEdge, ↓kl_agSystems, ↓kl_i_SystemValid, ↓kv_agSystems_1, ↓kv_agSystems_2, ↓kv_agSystems_3, ↓kv_i_SystemValid_1, LE, hs, ↓kd, ↓kc_i_AddEdge_d, ↓kc_i_DropEdge_d, ↓kl_i_SystemValid_one, ↓kv_agSystems_any, ↓kl_agSystems_nil, hd, hd2, e4, hv, oS_none, oZ_none, oS_some, oZ_some, edgesD_nil]

end Ev
end Go.Proofs.Ytidobgmklcbcpaa
