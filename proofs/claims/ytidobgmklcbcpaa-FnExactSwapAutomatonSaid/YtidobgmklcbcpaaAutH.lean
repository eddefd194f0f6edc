/-
  Automata with exchanged letters: the reference's.
-/
import Derived.Test.YtidobgmklcbcpaaAutG
set_option linter.unusedSimpArgs false
set_option linter.unusedVariables false
set_option maxRecDepth 8000
set_option pp.maxSteps 6000
set_option maxHeartbeats 4000000
namespace Go.Proofs.Ytidobgmklcbcpaa
namespace Ev

/-- The automaton with exchanged letters. -/
def swapAl (al x y : Int) (ok : Bool) : Int := if ok = true then swapAlpha al x y else 0
def swapRs (al : Int) (rs : List (List Int)) (x y : Int) (ok : Bool) : List (List Int) := if ok = true then rowsSw al rs x y (letters (swapAlpha al x y)) 0 rs.length else []
def swapAc (ac : List Bool) (ok : Bool) : List Bool := if ok = true then ac else []

theorem seek_all {p : Nat → Bool} {n : Nat} (h : (seek p n 0).isNone = true) {i : Nat} (hi : i < n) : p i = false :=
  seek_none.1 (by simpa using h) i (by omega) (by omega)

theorem autOK_wide {al : Int} {rs : List (List Int)} {ac : List Bool} (h : autOK al rs ac = true) : rowsWide (letters al).length rs := by
  unfold autOK at h
  simp only [Bool.and_eq_true] at h
  intro r hr
  obtain ⟨i, hi, rfl⟩ := List.getElem_of_mem hr
  have hb := seek_all h.2 hi
  unfold rowBadAt at hb
  rw [List.getD_eq_getElem?_getD, List.getElem?_eq_getElem hi] at hb
  apply Classical.byContradiction
  intro hc
  rw [rowBad_w (by simp only [Option.getD_some]; omega)] at hb
  cases hb

theorem autOK_len {al : Int} {rs : List (List Int)} {ac : List Bool} (h : autOK al rs ac = true) : 1 ≤ rs.length ∧ rs.length ≤ 12 ∧ ac.length = rs.length ∧ isAlpha al = true := by
  unfold autOK at h
  simp only [Bool.and_eq_true, decide_eq_true_eq] at h
  obtain ⟨⟨⟨⟨h1, h2⟩, h3⟩, h4⟩, _⟩ := h
  exact ⟨by omega, by omega, by omega, h1⟩

theorem ev_s_SwapAutomaton {L n : Nat} (hn : 6 ≤ n) (al x y : Int) (rs : List (List Int)) (ac : List Bool) (hs : rowsShort rs) (ha : ac.length ≤ 4294967296) (hL : 2 ^ 60 ≤ L) : evCall env L n 33 [.agg [.d (.int .i64 al), .d (.ivs rs.length (rowsD rs)), .d (.ivs ac.length (bools ac))], .d (.int .i64 x), .d (.int .i64 y)] [] = some (.tup [.agg [.d (.int .i64 (swapAl al x y (swapOK al rs ac x y))), .d (.ivs (swapRs al rs x y (swapOK al rs ac x y)).length (rowsD (swapRs al rs x y (swapOK al rs ac x y)))), .d (.ivs (swapAc ac (swapOK al rs ac x y)).length (bools (swapAc ac (swapOK al rs ac x y))))], .d (.bool (swapOK al rs ac x y))], []) := by
  have hrl := hs.1
  unfold swapOK
  cases hv : autOK al rs ac with
  | false =>
    obtain ⟨n, rfl⟩ : ∃ m, n = m + 1 := ⟨n - 1, by omega⟩
    rw [fn_s_SwapAutomaton]
    simp only [S_s_SwapAutomaton, Try.f33, slimF, slimL, lpOf, codeOf, Option.getD_some, slim, loops, List.length_nil, Nat.add_zero, Nat.zero_add, slimO, slimG, List.map_cons, List.map_nil, List.getElem?_cons_zero, List.getElem?_cons_succ, Option.bind_some, Bool.false_eq_true, if_false, if_true, List.length_cons, List.replicate, List.cons_append, List.nil_append, List.append_nil, Nat.reduceAdd, Nat.reduceSub, List.getD_cons_zero, List.getD_cons_succ]
    simp -implicitDefEqProofs (maxSteps := 2000000) (disch := first | assumption | (refine Shut.mk ?_; kernel_rfl) | omega | (simp only [List.getElem?_cons_zero, List.getElem?_cons_succ]; done) | (simp only [List.length_append, List.length_cons, List.length_nil, List.length_set, List.length_replicate, List.length_map, List.length_take, List.length_drop] <;> omega)) only [↓WD, ↓kAsg, ↓kRet, ↓reduceIte, ↓clash_free, ↓WDD, ↓kOpD_callv, WK, thawAt, evPick, aPut, leavesBody, outA, outS, outSs, idsA, idsL, mapA, calmAs, calmA, calmSl, calmPt, genOf, calmH, calmFrom, calmO, mapAs, maskB, isUndef, tidy, Int.reduceLT, Int.reduceLE, Int.reduceEq, Int.reduceNe, Int.reduceNeg, Int.reduceAdd, Int.reduceSub, Int.reduceMul, Int.reduceToNat, Nat.reduceAdd, Nat.reduceSub, aBuiltin, aAppend, aAppend0, aAppendV, isVec, bears, emptyArr, sliceAs, keeps, aBuildVec, aMakeVec, sliceCells, aBuildSlice, aIndexAddr, aLoad, runOf, ofCells, TY, LB, aLen, withInt, fillA, frzL, listWith, frz, frz0, deep, cellsA, setRun, okCell, List.replicate, notJunk, Nat.reduceMul, Nat.reduceLeDiff, Nat.reducePow, Nat.reduceBEq, boxIds, aResults, aResult, outAs, tupA, evNilCheck, aMove, MD, opds, evOp, asOper, one, two, evCallee, evAssign, aNew, evSlice, evField, evExtract, evFunc, pureOp, isCall, readOp, List.range', back, putBack, fuelR, closed, aStore, thawCells, place, pack, mapO, Nat.reduceEqDiff, Nat.reduceLT, maxNeed, i64_id, frzA, frzAs, memD, lentA, footC, ↓kc_s_AutomatonValid, ↓kc_s_l17Letter, ↓kc_s_SwapAlphabet, ↓kc_s_l1Letters, ↓kc_s_l17Swap, ↓kc_s_l3Go, ↓kl_s_AutomatonValid, ↓kl_s_l3Go, ↓kv_s_AutomatonValid_1, ↓kv_s_AutomatonValid_2, ↓kv_s_AutomatonValid_3, ↓kv_s_l3Go_1, ↓kv_s_l3Go_2, ↓kv_s_l3Go_3, ↓loop_s_SwapAutomaton_0, ↓loop_s_SwapAutomaton_1, LA, hv, Bool.false_and, swapAl, swapRs, swapAc, Bool.false_eq_true, if_false, List.length_nil, rowsD_nil, bools_nil]
  | true =>
    cases hx : isLet x with
    | false =>
      obtain ⟨n, rfl⟩ : ∃ m, n = m + 1 := ⟨n - 1, by omega⟩
      rw [fn_s_SwapAutomaton]
      simp only [S_s_SwapAutomaton, Try.f33, slimF, slimL, lpOf, codeOf, Option.getD_some, slim, loops, List.length_nil, Nat.add_zero, Nat.zero_add, slimO, slimG, List.map_cons, List.map_nil, List.getElem?_cons_zero, List.getElem?_cons_succ, Option.bind_some, Bool.false_eq_true, if_false, if_true, List.length_cons, List.replicate, List.cons_append, List.nil_append, List.append_nil, Nat.reduceAdd, Nat.reduceSub, List.getD_cons_zero, List.getD_cons_succ]
      simp -implicitDefEqProofs (maxSteps := 2000000) (disch := first | assumption | (refine Shut.mk ?_; kernel_rfl) | omega | (simp only [List.getElem?_cons_zero, List.getElem?_cons_succ]; done) | (simp only [List.length_append, List.length_cons, List.length_nil, List.length_set, List.length_replicate, List.length_map, List.length_take, List.length_drop] <;> omega)) only [↓WD, ↓kAsg, ↓kRet, ↓reduceIte, ↓clash_free, ↓WDD, ↓kOpD_callv, WK, thawAt, evPick, aPut, leavesBody, outA, outS, outSs, idsA, idsL, mapA, calmAs, calmA, calmSl, calmPt, genOf, calmH, calmFrom, calmO, mapAs, maskB, isUndef, tidy, Int.reduceLT, Int.reduceLE, Int.reduceEq, Int.reduceNe, Int.reduceNeg, Int.reduceAdd, Int.reduceSub, Int.reduceMul, Int.reduceToNat, Nat.reduceAdd, Nat.reduceSub, aBuiltin, aAppend, aAppend0, aAppendV, isVec, bears, emptyArr, sliceAs, keeps, aBuildVec, aMakeVec, sliceCells, aBuildSlice, aIndexAddr, aLoad, runOf, ofCells, TY, LB, aLen, withInt, fillA, frzL, listWith, frz, frz0, deep, cellsA, setRun, okCell, List.replicate, notJunk, Nat.reduceMul, Nat.reduceLeDiff, Nat.reducePow, Nat.reduceBEq, boxIds, aResults, aResult, outAs, tupA, evNilCheck, aMove, MD, opds, evOp, asOper, one, two, evCallee, evAssign, aNew, evSlice, evField, evExtract, evFunc, pureOp, isCall, readOp, List.range', back, putBack, fuelR, closed, aStore, thawCells, place, pack, mapO, Nat.reduceEqDiff, Nat.reduceLT, maxNeed, i64_id, frzA, frzAs, memD, lentA, footC, ↓kc_s_AutomatonValid, ↓kc_s_l17Letter, ↓kc_s_SwapAlphabet, ↓kc_s_l1Letters, ↓kc_s_l17Swap, ↓kc_s_l3Go, ↓kl_s_AutomatonValid, ↓kl_s_l3Go, ↓kv_s_AutomatonValid_1, ↓kv_s_AutomatonValid_2, ↓kv_s_AutomatonValid_3, ↓kv_s_l3Go_1, ↓kv_s_l3Go_2, ↓kv_s_l3Go_3, ↓loop_s_SwapAutomaton_0, ↓loop_s_SwapAutomaton_1, LA, hv, hx, Bool.false_and, Bool.and_false, swapAl, swapRs, swapAc, Bool.false_eq_true, if_false, List.length_nil, rowsD_nil, bools_nil]
    | true =>
      cases hy : isLet y with
      | false =>
        obtain ⟨n, rfl⟩ : ∃ m, n = m + 1 := ⟨n - 1, by omega⟩
        rw [fn_s_SwapAutomaton]
        simp only [S_s_SwapAutomaton, Try.f33, slimF, slimL, lpOf, codeOf, Option.getD_some, slim, loops, List.length_nil, Nat.add_zero, Nat.zero_add, slimO, slimG, List.map_cons, List.map_nil, List.getElem?_cons_zero, List.getElem?_cons_succ, Option.bind_some, Bool.false_eq_true, if_false, if_true, List.length_cons, List.replicate, List.cons_append, List.nil_append, List.append_nil, Nat.reduceAdd, Nat.reduceSub, List.getD_cons_zero, List.getD_cons_succ]
        simp -implicitDefEqProofs (maxSteps := 2000000) (disch := first | assumption | (refine Shut.mk ?_; kernel_rfl) | omega | (simp only [List.getElem?_cons_zero, List.getElem?_cons_succ]; done) | (simp only [List.length_append, List.length_cons, List.length_nil, List.length_set, List.length_replicate, List.length_map, List.length_take, List.length_drop] <;> omega)) only [↓WD, ↓kAsg, ↓kRet, ↓reduceIte, ↓clash_free, ↓WDD, ↓kOpD_callv, WK, thawAt, evPick, aPut, leavesBody, outA, outS, outSs, idsA, idsL, mapA, calmAs, calmA, calmSl, calmPt, genOf, calmH, calmFrom, calmO, mapAs, maskB, isUndef, tidy, Int.reduceLT, Int.reduceLE, Int.reduceEq, Int.reduceNe, Int.reduceNeg, Int.reduceAdd, Int.reduceSub, Int.reduceMul, Int.reduceToNat, Nat.reduceAdd, Nat.reduceSub, aBuiltin, aAppend, aAppend0, aAppendV, isVec, bears, emptyArr, sliceAs, keeps, aBuildVec, aMakeVec, sliceCells, aBuildSlice, aIndexAddr, aLoad, runOf, ofCells, TY, LB, aLen, withInt, fillA, frzL, listWith, frz, frz0, deep, cellsA, setRun, okCell, List.replicate, notJunk, Nat.reduceMul, Nat.reduceLeDiff, Nat.reducePow, Nat.reduceBEq, boxIds, aResults, aResult, outAs, tupA, evNilCheck, aMove, MD, opds, evOp, asOper, one, two, evCallee, evAssign, aNew, evSlice, evField, evExtract, evFunc, pureOp, isCall, readOp, List.range', back, putBack, fuelR, closed, aStore, thawCells, place, pack, mapO, Nat.reduceEqDiff, Nat.reduceLT, maxNeed, i64_id, frzA, frzAs, memD, lentA, footC, ↓kc_s_AutomatonValid, ↓kc_s_l17Letter, ↓kc_s_SwapAlphabet, ↓kc_s_l1Letters, ↓kc_s_l17Swap, ↓kc_s_l3Go, ↓kl_s_AutomatonValid, ↓kl_s_l3Go, ↓kv_s_AutomatonValid_1, ↓kv_s_AutomatonValid_2, ↓kv_s_AutomatonValid_3, ↓kv_s_l3Go_1, ↓kv_s_l3Go_2, ↓kv_s_l3Go_3, ↓loop_s_SwapAutomaton_0, ↓loop_s_SwapAutomaton_1, LA, hv, hx, hy, Bool.false_and, Bool.and_false, swapAl, swapRs, swapAc, Bool.false_eq_true, if_false, List.length_nil, rowsD_nil, bools_nil]
      | true =>
        have bx := isLet_iff.1 hx
        have by' := isLet_iff.1 hy
        have hw := autOK_wide hv
        have hll := letters_len (swapAlpha al x y)
        have loop_a := fun {R : Type} {n : Nat} (hn : 4 ≤ n) {k : Exit → List A → H → Option R} => loop_s_SwapAutomaton_0 (R := R) (L := L) (n := n) hn hL (al := al) (al2 := swapAlpha al x y) (z := ac.length) (cs := bools ac) (cs2 := bools ac) hs hw bx.1 bx.2 by'.1 by'.2 (ls := letters (swapAlpha al x y)) letters_in hll (k := k) rs.length 0 L [] 0 0 (by omega) (by omega) (by omega) (by simp) rfl rfl
        simp only [Int.toNat_zero, List.nil_append, rowsD_nil] at loop_a
        have hrn : (rowsSw al rs x y (letters (swapAlpha al x y)) 0 rs.length).length = rs.length := rowsSw_len
        have htk : ∀ z, z = rs.length → (rowsD (rowsSw al rs x y (letters (swapAlpha al x y)) 0 rs.length)).take z = rowsD (rowsSw al rs x y (letters (swapAlpha al x y)) 0 rs.length) := fun z hz => rows_take (by rw [hrn]; omega)
        have htk2 := htk rs.length rfl
        have hbt : (bools ac).take ac.length = bools ac := bools_take (Nat.le_refl _)
        rcases eR_or (rowsSw al rs x y (letters (swapAlpha al x y)) 0 rs.length) with h1 | h1
        · have hlen := autOK_len hv
          have : eR (rowsSw al rs x y (letters (swapAlpha al x y)) 0 rs.length) = 1 := by
            unfold eR
            rw [if_neg (by intro hc; rw [hc] at hrn; simp at hrn; omega)]
          omega
        · obtain ⟨n, rfl⟩ : ∃ m, n = m + 1 := ⟨n - 1, by omega⟩
          rw [fn_s_SwapAutomaton]
          simp only [S_s_SwapAutomaton, Try.f33, slimF, slimL, lpOf, codeOf, Option.getD_some, slim, loops, List.length_nil, Nat.add_zero, Nat.zero_add, slimO, slimG, List.map_cons, List.map_nil, List.getElem?_cons_zero, List.getElem?_cons_succ, Option.bind_some, Bool.false_eq_true, if_false, if_true, List.length_cons, List.replicate, List.cons_append, List.nil_append, List.append_nil, Nat.reduceAdd, Nat.reduceSub, List.getD_cons_zero, List.getD_cons_succ]
          simp -implicitDefEqProofs (maxSteps := 2000000) (disch := first | assumption | (refine Shut.mk ?_; kernel_rfl) | omega | (simp only [List.getElem?_cons_zero, List.getElem?_cons_succ]; done) | (simp only [List.length_append, List.length_cons, List.length_nil, List.length_set, List.length_replicate, List.length_map, List.length_take, List.length_drop] <;> omega)) only [↓WD, ↓kAsg, ↓kRet, ↓reduceIte, ↓clash_free, ↓WDD, ↓kOpD_callv, WK, thawAt, evPick, aPut, leavesBody, outA, outS, outSs, idsA, idsL, mapA, calmAs, calmA, calmSl, calmPt, genOf, calmH, calmFrom, calmO, mapAs, maskB, isUndef, tidy, Int.reduceLT, Int.reduceLE, Int.reduceEq, Int.reduceNe, Int.reduceNeg, Int.reduceAdd, Int.reduceSub, Int.reduceMul, Int.reduceToNat, Nat.reduceAdd, Nat.reduceSub, aBuiltin, aAppend, aAppend0, aAppendV, isVec, bears, emptyArr, sliceAs, keeps, aBuildVec, aMakeVec, sliceCells, aBuildSlice, aIndexAddr, aLoad, runOf, ofCells, TY, LB, aLen, withInt, fillA, frzL, listWith, frz, frz0, deep, cellsA, setRun, okCell, List.replicate, notJunk, Nat.reduceMul, Nat.reduceLeDiff, Nat.reducePow, Nat.reduceBEq, boxIds, aResults, aResult, outAs, tupA, evNilCheck, aMove, MD, opds, evOp, asOper, one, two, evCallee, evAssign, aNew, evSlice, evField, evExtract, evFunc, pureOp, isCall, readOp, List.range', back, putBack, fuelR, closed, aStore, thawCells, place, pack, mapO, Nat.reduceEqDiff, Nat.reduceLT, maxNeed, i64_id, frzA, frzAs, memD, lentA, footC, ↓kc_s_AutomatonValid, ↓kc_s_l17Letter, ↓kc_s_SwapAlphabet, ↓kc_s_l1Letters, ↓kc_s_l17Swap, ↓kc_s_l3Go, ↓kl_s_AutomatonValid, ↓kl_s_l3Go, ↓kv_s_AutomatonValid_1, ↓kv_s_AutomatonValid_2, ↓kv_s_AutomatonValid_3, ↓kv_s_l3Go_1, ↓kv_s_l3Go_2, ↓kv_s_l3Go_3, ↓loop_s_SwapAutomaton_0, ↓loop_s_SwapAutomaton_1, LA, hv, hx, hy, Bool.and_self, ↓loop_a, h1, hrn, htk2, hbt, swapAl, swapRs, swapAc, if_true, bools_length, rowsD_length]
theorem kc_s_SwapAutomaton {R : Type} {L n : Nat} {hq : H} {k : A → H → Option R} (hn : 6 ≤ n) (al x y : Int) (rs : List (List Int)) (ac : List Bool) (hs : rowsShort rs) (ha : ac.length ≤ 4294967296) (hL : 2 ^ 60 ≤ L) : kCall env (evCall env L n) hq 33 [.agg [.d (.int .i64 al), .d (.ivs rs.length (rowsD rs)), .d (.ivs ac.length (bools ac))], .d (.int .i64 x), .d (.int .i64 y)] k = k (.tup [.agg [.d (.int .i64 (swapAl al x y (swapOK al rs ac x y))), .d (.ivs (swapRs al rs x y (swapOK al rs ac x y)).length (rowsD (swapRs al rs x y (swapOK al rs ac x y)))), .d (.ivs (swapAc ac (swapOK al rs ac x y)).length (bools (swapAc ac (swapOK al rs ac x y))))], .d (.bool (swapOK al rs ac x y))]) hq :=
  kCall_still rfl (ev_s_SwapAutomaton hn al x y rs ac hs ha hL) rfl (.inr rfl)

end Ev
end Go.Proofs.Ytidobgmklcbcpaa
