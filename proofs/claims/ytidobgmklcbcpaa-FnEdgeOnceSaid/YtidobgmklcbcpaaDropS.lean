/-
  What the reference says of dropping an edge; both are the same.
-/
import Derived.Test.YtidobgmklcbcpaaDrop
set_option linter.unusedSimpArgs false
set_option linter.unusedVariables false
set_option maxRecDepth 8000
set_option pp.maxSteps 6000
set_option maxHeartbeats 4000000
namespace Go.Proofs.Ytidobgmklcbcpaa
namespace Ev

def optI : Option Nat → Int
  | none => -1
  | some r => r

theorem optI_some {r : Nat} : optI (some r) = (r : Int) := rfl
theorem optI_none : optI none = -1 := rfl

theorem loop_s_l17Index {R : Type} {L n : Nat} {a b c : Int} {l : List Edge} (hl : l.length ≤ 4294967296) {k : Exit → List A → H → Option R} : ∀ (j : Nat) (i : Int) (m : Nat) (h0 : 0 ≤ i) (hi : i + j = l.length) (hm : j < m),
    kLoop env (evCall env L n) L 0 [] (true :: false :: false :: true :: true :: true :: false :: false :: false :: false :: false :: false :: false :: false :: false :: false :: false :: false :: false :: []) (lp_s_l17Index 0) (false :: true :: true :: false :: false :: false :: true :: true :: true :: true :: true :: true :: true :: true :: true :: true :: true :: true :: true :: []) m (.d (.ivs l.length (edgesD l)) :: .junk :: .junk :: .ptr 0 0 0 :: .d (.int .i64 0) :: .d (.int .i64 i) :: .junk :: .junk :: .junk :: .junk :: .junk :: .junk :: .junk :: .junk :: .junk :: .junk :: .junk :: .junk :: .junk :: []) [.box [.d (.int .i64 a), .d (.int .i64 b), .d (.int .i64 c)]] k
    = match seek (fun k => decide (l.getD k default = ⟨a, b, c⟩)) j i.toNat with
      | none => k (.exit 0) (.d (.ivs l.length (edgesD l)) :: .junk :: .junk :: .ptr 0 0 0 :: .d (.int .i64 0) :: .d (.int .i64 (l.length)) :: .junk :: .junk :: .junk :: .junk :: .junk :: .junk :: .junk :: .junk :: .junk :: .junk :: .junk :: .junk :: .junk :: []) [.box [.d (.int .i64 a), .d (.int .i64 b), .d (.int .i64 c)]]
      | some r => k .ret (.d (.ivs l.length (edgesD l)) :: .junk :: .junk :: .ptr 0 0 0 :: .d (.int .i64 r) :: .d (.int .i64 r) :: .junk :: .junk :: .junk :: .junk :: .junk :: .junk :: .junk :: .junk :: .junk :: .junk :: .junk :: .junk :: .junk :: []) [.box [.d (.int .i64 a), .d (.int .i64 b), .d (.int .i64 c)]] := by
  intro j
  induction j with
  | zero =>
    intro i m h0 hi hm
    obtain ⟨m, rfl⟩ : ∃ q, m = q + 1 := ⟨m - 1, by omega⟩
    obtain rfl : i = l.length := by omega
    rw [step_s_l17Index_0]
    simp only [S_s_l17Index_0, Try.f79, slimF, slimL, lpOf, codeOf, Option.getD_some, slim, loops, List.length_nil, Nat.add_zero, Nat.zero_add, slimO, slimG, List.map_cons, List.map_nil, List.getElem?_cons_zero, List.getElem?_cons_succ, Option.bind_some, Bool.false_eq_true, if_false, if_true, List.length_cons, List.replicate, List.cons_append, List.nil_append, List.append_nil, Nat.reduceAdd, Nat.reduceSub, List.getD_cons_zero, List.getD_cons_succ]
    simp -implicitDefEqProofs (maxSteps := 2000000) (disch := first | assumption | (refine Shut.mk ?_; kernel_rfl) | omega | (simp only [List.getElem?_cons_zero, List.getElem?_cons_succ]; done) | (simp only [List.length_append, List.length_cons, List.length_nil, List.length_set, List.length_replicate, List.length_map, List.length_take, List.length_drop] <;> omega) | (fail)) only [↓WD, ↓kAsg, ↓kRet, ↓reduceIte, ↓clash_free, ↓WDD, ↓kOpD_callv, WK, thawAt, evPick, aPut, leavesBody, outA, outS, outSs, idsA, idsL, mapA, calmAs, calmA, calmSl, calmPt, genOf, calmH, calmFrom, calmO, mapAs, maskB, isUndef, tidy, Int.reduceLT, Int.reduceLE, Int.reduceEq, Int.reduceNe, Int.reduceNeg, Int.reduceAdd, Int.reduceSub, Int.reduceMul, Int.reduceToNat, Nat.reduceAdd, Nat.reduceSub, aBuiltin, aAppend, aAppend0, aAppendV, isVec, bears, emptyArr, sliceAs, keeps, aBuildVec, aMakeVec, sliceCells, aBuildSlice, aIndexAddr, aLoad, runOf, ofCells, TY, LB, aLen, withInt, fillA, frzL, listWith, frz, frz0, deep, cellsA, setRun, okCell, List.replicate, notJunk, Nat.reduceMul, Nat.reduceLeDiff, Nat.reducePow, Nat.reduceBEq, boxIds, aResults, aResult, outAs, tupA, evNilCheck, aMove, MD, opds, evOp, asOper, one, two, evCallee, evAssign, aNew, evSlice, evField, evExtract, evFunc, pureOp, isCall, readOp, List.range', back, putBack, fuelR, closed, aStore, thawCells, place, pack, mapO, Nat.reduceEqDiff, Nat.reduceLT, maxNeed, i64_id, frzA, frzAs, memD, lentA, footC, ↓conv_slb_to, ↓conv_slb_from, ↓conv_sls_to, ↓conv_sls_from, ↓conv_sls_both, LE, Int.lt_irrefl]
    rfl
  | succ j ih =>
    intro i m h0 hi hm
    obtain ⟨m, rfl⟩ : ∃ q, m = q + 1 := ⟨m - 1, by omega⟩
    have hc : i < l.length := by omega
    have hk : i.toNat < l.length := by omega
    have e1 : (i + 1).toNat = i.toNat + 1 := by omega
    have e3 : ((i.toNat : Nat) : Int) = i := by omega
    by_cases hb : l.getD i.toNat default = ⟨a, b, c⟩
    · rw [seek_pos (decide_eq_true hb)]
      rw [step_s_l17Index_0]
      simp only [S_s_l17Index_0, Try.f79, slimF, slimL, lpOf, codeOf, Option.getD_some, slim, loops, List.length_nil, Nat.add_zero, Nat.zero_add, slimO, slimG, List.map_cons, List.map_nil, List.getElem?_cons_zero, List.getElem?_cons_succ, Option.bind_some, Bool.false_eq_true, if_false, if_true, List.length_cons, List.replicate, List.cons_append, List.nil_append, List.append_nil, Nat.reduceAdd, Nat.reduceSub, List.getD_cons_zero, List.getD_cons_succ]
      simp -implicitDefEqProofs (maxSteps := 2000000) (disch := first | assumption | (refine Shut.mk ?_; kernel_rfl) | omega | (simp only [List.getElem?_cons_zero, List.getElem?_cons_succ]; done) | (simp only [List.length_append, List.length_cons, List.length_nil, List.length_set, List.length_replicate, List.length_map, List.length_take, List.length_drop] <;> omega) | (fail)) only [↓WD, ↓kAsg, ↓kRet, ↓reduceIte, ↓clash_free, ↓WDD, ↓kOpD_callv, WK, thawAt, evPick, aPut, leavesBody, outA, outS, outSs, idsA, idsL, mapA, calmAs, calmA, calmSl, calmPt, genOf, calmH, calmFrom, calmO, mapAs, maskB, isUndef, tidy, Int.reduceLT, Int.reduceLE, Int.reduceEq, Int.reduceNe, Int.reduceNeg, Int.reduceAdd, Int.reduceSub, Int.reduceMul, Int.reduceToNat, Nat.reduceAdd, Nat.reduceSub, aBuiltin, aAppend, aAppend0, aAppendV, isVec, bears, emptyArr, sliceAs, keeps, aBuildVec, aMakeVec, sliceCells, aBuildSlice, aIndexAddr, aLoad, runOf, ofCells, TY, LB, aLen, withInt, fillA, frzL, listWith, frz, frz0, deep, cellsA, setRun, okCell, List.replicate, notJunk, Nat.reduceMul, Nat.reduceLeDiff, Nat.reducePow, Nat.reduceBEq, boxIds, aResults, aResult, outAs, tupA, evNilCheck, aMove, MD, opds, evOp, asOper, one, two, evCallee, evAssign, aNew, evSlice, evField, evExtract, evFunc, pureOp, isCall, readOp, List.range', back, putBack, fuelR, closed, aStore, thawCells, place, pack, mapO, Nat.reduceEqDiff, Nat.reduceLT, maxNeed, i64_id, frzA, frzAs, memD, lentA, footC, ↓conv_slb_to, ↓conv_slb_from, ↓conv_sls_to, ↓conv_sls_from, ↓conv_sls_both, LE, hc, hb, e3]
    · rw [seek_neg (decide_eq_false hb)]
      rw [step_s_l17Index_0]
      simp only [S_s_l17Index_0, Try.f79, slimF, slimL, lpOf, codeOf, Option.getD_some, slim, loops, List.length_nil, Nat.add_zero, Nat.zero_add, slimO, slimG, List.map_cons, List.map_nil, List.getElem?_cons_zero, List.getElem?_cons_succ, Option.bind_some, Bool.false_eq_true, if_false, if_true, List.length_cons, List.replicate, List.cons_append, List.nil_append, List.append_nil, Nat.reduceAdd, Nat.reduceSub, List.getD_cons_zero, List.getD_cons_succ]
      simp -implicitDefEqProofs (maxSteps := 2000000) (disch := first | assumption | (refine Shut.mk ?_; kernel_rfl) | omega | (simp only [List.getElem?_cons_zero, List.getElem?_cons_succ]; done) | (simp only [List.length_append, List.length_cons, List.length_nil, List.length_set, List.length_replicate, List.length_map, List.length_take, List.length_drop] <;> omega) | (fail)) only [↓WD, ↓kAsg, ↓kRet, ↓reduceIte, ↓clash_free, ↓WDD, ↓kOpD_callv, WK, thawAt, evPick, aPut, leavesBody, outA, outS, outSs, idsA, idsL, mapA, calmAs, calmA, calmSl, calmPt, genOf, calmH, calmFrom, calmO, mapAs, maskB, isUndef, tidy, Int.reduceLT, Int.reduceLE, Int.reduceEq, Int.reduceNe, Int.reduceNeg, Int.reduceAdd, Int.reduceSub, Int.reduceMul, Int.reduceToNat, Nat.reduceAdd, Nat.reduceSub, aBuiltin, aAppend, aAppend0, aAppendV, isVec, bears, emptyArr, sliceAs, keeps, aBuildVec, aMakeVec, sliceCells, aBuildSlice, aIndexAddr, aLoad, runOf, ofCells, TY, LB, aLen, withInt, fillA, frzL, listWith, frz, frz0, deep, cellsA, setRun, okCell, List.replicate, notJunk, Nat.reduceMul, Nat.reduceLeDiff, Nat.reducePow, Nat.reduceBEq, boxIds, aResults, aResult, outAs, tupA, evNilCheck, aMove, MD, opds, evOp, asOper, one, two, evCallee, evAssign, aNew, evSlice, evField, evExtract, evFunc, pureOp, isCall, readOp, List.range', back, putBack, fuelR, closed, aStore, thawCells, place, pack, mapO, Nat.reduceEqDiff, Nat.reduceLT, maxNeed, i64_id, frzA, frzAs, memD, lentA, footC, ↓conv_slb_to, ↓conv_slb_from, ↓conv_sls_to, ↓conv_sls_from, ↓conv_sls_both, LE, hc, hb, ↓ih, e1]

theorem loop_s_l17Index_top {R : Type} {L n m : Nat} {a b c : Int} {l : List Edge} (hl : l.length ≤ 4294967296) {k : Exit → List A → H → Option R} (hm : l.length < m) :
    kLoop env (evCall env L n) L 0 [] (true :: false :: false :: true :: true :: true :: false :: false :: false :: false :: false :: false :: false :: false :: false :: false :: false :: false :: false :: []) (lp_s_l17Index 0) (false :: true :: true :: false :: false :: false :: true :: true :: true :: true :: true :: true :: true :: true :: true :: true :: true :: true :: true :: []) m (.d (.ivs l.length (edgesD l)) :: .junk :: .junk :: .ptr 0 0 0 :: .d (.int .i64 0) :: .d (.int .i64 0) :: .junk :: .junk :: .junk :: .junk :: .junk :: .junk :: .junk :: .junk :: .junk :: .junk :: .junk :: .junk :: .junk :: []) [.box [.d (.int .i64 a), .d (.int .i64 b), .d (.int .i64 c)]] k
    = match idxE l ⟨a, b, c⟩ with
      | none => k (.exit 0) (.d (.ivs l.length (edgesD l)) :: .junk :: .junk :: .ptr 0 0 0 :: .d (.int .i64 0) :: .d (.int .i64 (l.length)) :: .junk :: .junk :: .junk :: .junk :: .junk :: .junk :: .junk :: .junk :: .junk :: .junk :: .junk :: .junk :: .junk :: []) [.box [.d (.int .i64 a), .d (.int .i64 b), .d (.int .i64 c)]]
      | some r => k .ret (.d (.ivs l.length (edgesD l)) :: .junk :: .junk :: .ptr 0 0 0 :: .d (.int .i64 r) :: .d (.int .i64 r) :: .junk :: .junk :: .junk :: .junk :: .junk :: .junk :: .junk :: .junk :: .junk :: .junk :: .junk :: .junk :: .junk :: []) [.box [.d (.int .i64 a), .d (.int .i64 b), .d (.int .i64 c)]] :=
  loop_s_l17Index hl l.length 0 m (by omega) (by omega) hm

theorem ev_s_l17Index {L n : Nat} (hn : 1 ≤ n) (l : List Edge) (a b c : Int) (hl : l.length ≤ 4294967296) (hL : 2 ^ 60 ≤ L) : evCall env L n 79 [.d (.ivs l.length (edgesD l)), .agg [.d (.int .i64 a), .d (.int .i64 b), .d (.int .i64 c)]] [] = some (.d (.int .i64 (optI (idxE l ⟨a, b, c⟩))), []) := by
  cases hs : idxE l ⟨a, b, c⟩ with
  | none =>
    obtain ⟨n, rfl⟩ : ∃ m, n = m + 1 := ⟨n - 1, by omega⟩
    rw [fn_s_l17Index]
    simp only [S_s_l17Index, Try.f79, slimF, slimL, lpOf, codeOf, Option.getD_some, slim, loops, List.length_nil, Nat.add_zero, Nat.zero_add, slimO, slimG, List.map_cons, List.map_nil, List.getElem?_cons_zero, List.getElem?_cons_succ, Option.bind_some, Bool.false_eq_true, if_false, if_true, List.length_cons, List.replicate, List.cons_append, List.nil_append, List.append_nil, Nat.reduceAdd, Nat.reduceSub, List.getD_cons_zero, List.getD_cons_succ]
    simp -implicitDefEqProofs (maxSteps := 2000000) (disch := first | assumption | (refine Shut.mk ?_; kernel_rfl) | omega | (simp only [List.getElem?_cons_zero, List.getElem?_cons_succ]; done) | (simp only [List.length_append, List.length_cons, List.length_nil, List.length_set, List.length_replicate, List.length_map, List.length_take, List.length_drop] <;> omega) | (fail)) only [↓WD, ↓kAsg, ↓kRet, ↓reduceIte, ↓clash_free, ↓WDD, ↓kOpD_callv, WK, thawAt, evPick, aPut, leavesBody, outA, outS, outSs, idsA, idsL, mapA, calmAs, calmA, calmSl, calmPt, genOf, calmH, calmFrom, calmO, mapAs, maskB, isUndef, tidy, Int.reduceLT, Int.reduceLE, Int.reduceEq, Int.reduceNe, Int.reduceNeg, Int.reduceAdd, Int.reduceSub, Int.reduceMul, Int.reduceToNat, Nat.reduceAdd, Nat.reduceSub, aBuiltin, aAppend, aAppend0, aAppendV, isVec, bears, emptyArr, sliceAs, keeps, aBuildVec, aMakeVec, sliceCells, aBuildSlice, aIndexAddr, aLoad, runOf, ofCells, TY, LB, aLen, withInt, fillA, frzL, listWith, frz, frz0, deep, cellsA, setRun, okCell, List.replicate, notJunk, Nat.reduceMul, Nat.reduceLeDiff, Nat.reducePow, Nat.reduceBEq, boxIds, aResults, aResult, outAs, tupA, evNilCheck, aMove, MD, opds, evOp, asOper, one, two, evCallee, evAssign, aNew, evSlice, evField, evExtract, evFunc, pureOp, isCall, readOp, List.range', back, putBack, fuelR, closed, aStore, thawCells, place, pack, mapO, Nat.reduceEqDiff, Nat.reduceLT, maxNeed, i64_id, frzA, frzAs, memD, lentA, footC, ↓conv_slb_to, ↓conv_slb_from, ↓conv_sls_to, ↓conv_sls_from, ↓conv_sls_both, ↓loop_s_l17Index, ↓loop_s_l17Index_top, LE, hs, optI]
  | some r =>
    obtain ⟨n, rfl⟩ : ∃ m, n = m + 1 := ⟨n - 1, by omega⟩
    rw [fn_s_l17Index]
    simp only [S_s_l17Index, Try.f79, slimF, slimL, lpOf, codeOf, Option.getD_some, slim, loops, List.length_nil, Nat.add_zero, Nat.zero_add, slimO, slimG, List.map_cons, List.map_nil, List.getElem?_cons_zero, List.getElem?_cons_succ, Option.bind_some, Bool.false_eq_true, if_false, if_true, List.length_cons, List.replicate, List.cons_append, List.nil_append, List.append_nil, Nat.reduceAdd, Nat.reduceSub, List.getD_cons_zero, List.getD_cons_succ]
    simp -implicitDefEqProofs (maxSteps := 2000000) (disch := first | assumption | (refine Shut.mk ?_; kernel_rfl) | omega | (simp only [List.getElem?_cons_zero, List.getElem?_cons_succ]; done) | (simp only [List.length_append, List.length_cons, List.length_nil, List.length_set, List.length_replicate, List.length_map, List.length_take, List.length_drop] <;> omega) | (fail)) only [↓WD, ↓kAsg, ↓kRet, ↓reduceIte, ↓clash_free, ↓WDD, ↓kOpD_callv, WK, thawAt, evPick, aPut, leavesBody, outA, outS, outSs, idsA, idsL, mapA, calmAs, calmA, calmSl, calmPt, genOf, calmH, calmFrom, calmO, mapAs, maskB, isUndef, tidy, Int.reduceLT, Int.reduceLE, Int.reduceEq, Int.reduceNe, Int.reduceNeg, Int.reduceAdd, Int.reduceSub, Int.reduceMul, Int.reduceToNat, Nat.reduceAdd, Nat.reduceSub, aBuiltin, aAppend, aAppend0, aAppendV, isVec, bears, emptyArr, sliceAs, keeps, aBuildVec, aMakeVec, sliceCells, aBuildSlice, aIndexAddr, aLoad, runOf, ofCells, TY, LB, aLen, withInt, fillA, frzL, listWith, frz, frz0, deep, cellsA, setRun, okCell, List.replicate, notJunk, Nat.reduceMul, Nat.reduceLeDiff, Nat.reducePow, Nat.reduceBEq, boxIds, aResults, aResult, outAs, tupA, evNilCheck, aMove, MD, opds, evOp, asOper, one, two, evCallee, evAssign, aNew, evSlice, evField, evExtract, evFunc, pureOp, isCall, readOp, List.range', back, putBack, fuelR, closed, aStore, thawCells, place, pack, mapO, Nat.reduceEqDiff, Nat.reduceLT, maxNeed, i64_id, frzA, frzAs, memD, lentA, footC, ↓conv_slb_to, ↓conv_slb_from, ↓conv_sls_to, ↓conv_sls_from, ↓conv_sls_both, ↓loop_s_l17Index, ↓loop_s_l17Index_top, LE, hs, optI]
theorem kc_s_l17Index {R : Type} {L n : Nat} {hq : H} {k : A → H → Option R} (hn : 1 ≤ n) (l : List Edge) (a b c : Int) (hl : l.length ≤ 4294967296) (hL : 2 ^ 60 ≤ L) : kCall env (evCall env L n) hq 79 [.d (.ivs l.length (edgesD l)), .agg [.d (.int .i64 a), .d (.int .i64 b), .d (.int .i64 c)]] k = k (.d (.int .i64 (optI (idxE l ⟨a, b, c⟩)))) hq :=
  kCall_still rfl (ev_s_l17Index hn l a b c hl hL) rfl (.inl rfl)
theorem kl_s_l17Index {R : Type} {L n : Nat} {k : A → Option R} (hn : 1 ≤ n) (l : List Edge) (a b c : Int) (hl : l.length ≤ 4294967296) (hL : 2 ^ 60 ≤ L) : kLent (evCall env L n) 79 [.d (.ivs l.length (edgesD l)), .agg [.d (.int .i64 a), .d (.int .i64 b), .d (.int .i64 c)]] k = k (.d (.int .i64 (optI (idxE l ⟨a, b, c⟩)))) :=
  kLent_ev (ev_s_l17Index hn l a b c hl hL) rfl
theorem kv_s_l17Index_1 {R : Type} {L n : Nat} {hq : H} {k : A → H → Option R} {id0 g0 o0 len0 : Nat} {a b c : Int} : kCall env (evCall env L n) hq 79 [.sl id0 g0 o0 len0, .agg [.d (.int .i64 a), .d (.int .i64 b), .d (.int .i64 c)]] k = match box (lentA hq [.sl id0 g0 o0 len0, .agg [.d (.int .i64 a), .d (.int .i64 b), .d (.int .i64 c)]]) with
    | .mk (some fs) => kLent (evCall env L n) 79 fs fun r => k r hq
    | _ => none := kCall_lent mode_s_l17Index

/-- A call with frozen arguments, one of which is a slice of data. -/
theorem kCall_frz1 {R : Type} {E : Env} {call : CallF} {h : H} {f : FuncId} {args fs : List A} {r : A} {k : A → H → Option R} {id e g : Nat} {cs : List D} (hi : h[id]? = some (.arr cs e g)) (hid : idsL args = [id]) (hm : (E.hint f).mode = 2) (hr : idsA r = []) (hf : frzAs [.arr cs e g] (mapAs (place [id]) args) = some (fs, [.ice cs e g])) (hc : call f fs [] = some (r, [])) :
    kCall E call h f args k = k r (h.set id (.ice cs e g)) := by
  have hre : reach fuelR h [id] [] = [id] := by
    have e1 : reach fuelR h [id] [] = match h[id]? with
      | some (.box cs) => reach (fuelR - 1) h ([] ++ idsL cs) ([] ++ [id])
      | some (.vec cs _ _) => reach (fuelR - 1) h ([] ++ idsL cs) ([] ++ [id])
      | some .void => reach (fuelR - 1) h [] []
      | some _ => reach (fuelR - 1) h [] ([] ++ [id])
      | none => reach (fuelR - 1) h [] [] := rfl
    rw [e1, hi]; rfl
  have hpk : pack h [id] = [.arr cs e g] := by
    simp only [pack, List.map_cons, List.map_nil, List.getD_eq_getElem?_getD, hi]; rfl
  unfold kCall
  rw [hid, hre, hpk]
  have hc : aCall call E.hint [.arr cs e g] f (mapAs (place [id]) args) = some (r, [.ice cs e g]) := by
    unfold aCall; rw [hm]
    simp only [hf, hc]
  rw [hc]
  have hcl : closed h [id] [id] = true := by
    simp only [closed, List.all_cons, List.all_nil, hi]; simp
  simp only [List.length_cons, List.length_nil, Nat.le_refl, hcl, and_self, if_true, mapA_none r hr]
  simp only [putBack, mapO, List.map_nil, List.append_nil]

theorem frz_sys {al st : Int} {l : List Edge} {id : Nat} {xs : List A} (hx : xs.all still = true) : frzAs [.arr (edgesD l) 3 0] (mapAs (place [id]) (.agg [.d (.int .i64 al), .d (.int .i64 st), .sl id 0 0 l.length] :: xs)) = some (.agg [.d (.int .i64 al), .d (.int .i64 st), .d (.ivs l.length (edgesD l))] :: xs, [.ice (edgesD l) 3 0]) := by
  have h1 : 0 + l.length * 3 ≤ (edgesD l).length := by rw [edgesD_length]; omega
  have h2 : mapAs (place [id]) (.agg [.d (.int .i64 al), .d (.int .i64 st), .sl id 0 0 l.length] :: xs) = .agg [.d (.int .i64 al), .d (.int .i64 st), .sl 0 0 0 l.length] :: xs := by
    simp [mapAs, mapA, place, mapAs_none _ (stills_ids hx)]
  have h3 : frzA [.arr (edgesD l) 3 0] (.agg [.d (.int .i64 al), .d (.int .i64 st), .sl 0 0 0 l.length]) = some (.agg [.d (.int .i64 al), .d (.int .i64 st), .d (.ivs l.length (edgesD l))], [.ice (edgesD l) 3 0]) := by
    simp only [frzA, frzL, listWith, frz, deep, frz0, List.getElem?_cons_zero, true_and, h1, if_true, List.drop_zero, edges_take (Nat.le_refl _), List.set_cons_zero, List.map_cons, List.map_nil]
  rw [h2]
  simp only [frzAs, h3, frzAs_still hx]

end Ev
end Go.Proofs.Ytidobgmklcbcpaa
