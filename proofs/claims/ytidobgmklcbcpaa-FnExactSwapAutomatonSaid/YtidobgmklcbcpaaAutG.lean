/-
  The reference's step; automata with exchanged letters: the reference's.
-/
import Derived.Test.YtidobgmklcbcpaaAutT
set_option linter.unusedSimpArgs false
set_option linter.unusedVariables false
set_option maxRecDepth 8000
set_option pp.maxSteps 6000
set_option maxHeartbeats 4000000
namespace Go.Proofs.Ytidobgmklcbcpaa
namespace Ev

def cntB (a : Int) : Nat → Int → Nat
  | 0, _ => 0
  | j + 1, i => (if bitAt a i = true then 1 else 0) + cntB a j (i + 1)

theorem cntB_place {a l : Int} (h0 : 0 ≤ l) (h1 : l < 6) : cntB a l.toNat 0 = placeI a l := by
  unfold placeI letters
  generalize hp : bitAt a = p
  have e : ∀ i, bitAt a i = p i := fun i => by rw [hp]
  rcases six h0 h1 with rfl | rfl | rfl | rfl | rfl | rfl <;>
    simp only [cntB, e, show (0 : Int).toNat = 0 from rfl, show (1 : Int).toNat = 1 from rfl, show (2 : Int).toNat = 2 from rfl, show (3 : Int).toNat = 3 from rfl, show (4 : Int).toNat = 4 from rfl, show (5 : Int).toNat = 5 from rfl, Int.zero_add, Int.reduceAdd] <;>
    cases h0' : p 0 <;> cases h1' : p 1 <;> cases h2' : p 2 <;> cases h3' : p 3 <;> cases h4' : p 4 <;> cases h5' : p 5 <;> simp_all [List.filter]

theorem loop_s_l1Place {R : Type} {L n : Nat} (hn : 1 ≤ n) {a l : Int} (hl : l < 6) {k : Exit → List A → H → Option R} : ∀ (j : Nat) (i c : Int) (m : Nat) (h0 : 0 ≤ i) (hi : i + j = l) (hm : j < m) (hc0 : 0 ≤ c) (hc1 : c ≤ i),
    kLoop env (evCall env L n) L 0 [] (true :: true :: false :: false :: true :: true :: true :: false :: false :: false :: false :: false :: false :: false :: false :: false :: false :: false :: []) (lp_s_l1Place 0) (false :: false :: true :: true :: false :: false :: false :: true :: true :: true :: true :: true :: true :: true :: true :: true :: true :: true :: []) m (.d (.int .i64 a) :: .d (.int .i64 l) :: .junk :: .junk :: .d (.int .i64 0) :: .d (.int .i64 c) :: .d (.int .i64 i) :: .junk :: .junk :: .junk :: .junk :: .junk :: .junk :: .junk :: .junk :: .junk :: .junk :: .junk :: []) [] k
    = k (.exit 0) (.d (.int .i64 a) :: .d (.int .i64 l) :: .junk :: .junk :: .d (.int .i64 0) :: .d (.int .i64 ((c + cntB a j i))) :: .d (.int .i64 l) :: .junk :: .junk :: .junk :: .junk :: .junk :: .junk :: .junk :: .junk :: .junk :: .junk :: .junk :: []) [] := by
  intro j
  induction j with
  | zero =>
    intro i c m h0 hi hm hc0 hc1
    obtain ⟨m, rfl⟩ : ∃ q, m = q + 1 := ⟨m - 1, by omega⟩
    obtain rfl : i = l := by omega
    rw [step_s_l1Place_0]
    simp only [S_s_l1Place_0, Try.f131, slimF, slimL, lpOf, codeOf, Option.getD_some, slim, loops, List.length_nil, Nat.add_zero, Nat.zero_add, slimO, slimG, List.map_cons, List.map_nil, List.getElem?_cons_zero, List.getElem?_cons_succ, Option.bind_some, Bool.false_eq_true, if_false, if_true, List.length_cons, List.replicate, List.cons_append, List.nil_append, List.append_nil, Nat.reduceAdd, Nat.reduceSub, List.getD_cons_zero, List.getD_cons_succ]
    simp -implicitDefEqProofs (maxSteps := 2000000) (disch := first | assumption | (refine Shut.mk ?_; kernel_rfl) | omega | (simp only [List.getElem?_cons_zero, List.getElem?_cons_succ]; done) | (simp only [List.length_append, List.length_cons, List.length_nil, List.length_set, List.length_replicate, List.length_map, List.length_take, List.length_drop] <;> omega)) only [↓WD, ↓kAsg, ↓kRet, ↓reduceIte, ↓clash_free, ↓WDD, ↓kOpD_callv, WK, thawAt, evPick, aPut, leavesBody, outA, outS, outSs, idsA, idsL, mapA, calmAs, calmA, calmSl, calmPt, genOf, calmH, calmFrom, calmO, mapAs, maskB, isUndef, tidy, Int.reduceLT, Int.reduceLE, Int.reduceEq, Int.reduceNe, Int.reduceNeg, Int.reduceAdd, Int.reduceSub, Int.reduceMul, Int.reduceToNat, Nat.reduceAdd, Nat.reduceSub, aBuiltin, aAppend, aAppend0, aAppendV, isVec, bears, emptyArr, sliceAs, keeps, aBuildVec, aMakeVec, sliceCells, aBuildSlice, aIndexAddr, aLoad, runOf, ofCells, TY, LB, aLen, withInt, fillA, frzL, listWith, frz, frz0, deep, cellsA, setRun, okCell, List.replicate, notJunk, Nat.reduceMul, Nat.reduceLeDiff, Nat.reducePow, Nat.reduceBEq, boxIds, aResults, aResult, outAs, tupA, evNilCheck, aMove, MD, opds, evOp, asOper, one, two, evCallee, evAssign, aNew, evSlice, evField, evExtract, evFunc, pureOp, isCall, readOp, List.range', back, putBack, fuelR, closed, aStore, thawCells, place, pack, mapO, Nat.reduceEqDiff, Nat.reduceLT, maxNeed, i64_id, frzA, frzAs, memD, lentA, footC, ↓kc_s_l1Has, Int.lt_irrefl]
    simp only [cntB, Int.natCast_zero, Int.add_zero]
  | succ j ih =>
    intro i c m h0 hi hm hc0 hc1
    obtain ⟨m, rfl⟩ : ∃ q, m = q + 1 := ⟨m - 1, by omega⟩
    have hc : i < l := by omega
    cases hb : bitAt a i with
    | true =>
      have e : c + 1 + (cntB a j (i + 1) : Int) = c + cntB a (j + 1) i := by simp only [cntB, hb, if_true]; omega
      rw [step_s_l1Place_0]
      simp only [S_s_l1Place_0, Try.f131, slimF, slimL, lpOf, codeOf, Option.getD_some, slim, loops, List.length_nil, Nat.add_zero, Nat.zero_add, slimO, slimG, List.map_cons, List.map_nil, List.getElem?_cons_zero, List.getElem?_cons_succ, Option.bind_some, Bool.false_eq_true, if_false, if_true, List.length_cons, List.replicate, List.cons_append, List.nil_append, List.append_nil, Nat.reduceAdd, Nat.reduceSub, List.getD_cons_zero, List.getD_cons_succ]
      simp -implicitDefEqProofs (maxSteps := 2000000) (disch := first | assumption | (refine Shut.mk ?_; kernel_rfl) | omega | (simp only [List.getElem?_cons_zero, List.getElem?_cons_succ]; done) | (simp only [List.length_append, List.length_cons, List.length_nil, List.length_set, List.length_replicate, List.length_map, List.length_take, List.length_drop] <;> omega)) only [↓WD, ↓kAsg, ↓kRet, ↓reduceIte, ↓clash_free, ↓WDD, ↓kOpD_callv, WK, thawAt, evPick, aPut, leavesBody, outA, outS, outSs, idsA, idsL, mapA, calmAs, calmA, calmSl, calmPt, genOf, calmH, calmFrom, calmO, mapAs, maskB, isUndef, tidy, Int.reduceLT, Int.reduceLE, Int.reduceEq, Int.reduceNe, Int.reduceNeg, Int.reduceAdd, Int.reduceSub, Int.reduceMul, Int.reduceToNat, Nat.reduceAdd, Nat.reduceSub, aBuiltin, aAppend, aAppend0, aAppendV, isVec, bears, emptyArr, sliceAs, keeps, aBuildVec, aMakeVec, sliceCells, aBuildSlice, aIndexAddr, aLoad, runOf, ofCells, TY, LB, aLen, withInt, fillA, frzL, listWith, frz, frz0, deep, cellsA, setRun, okCell, List.replicate, notJunk, Nat.reduceMul, Nat.reduceLeDiff, Nat.reducePow, Nat.reduceBEq, boxIds, aResults, aResult, outAs, tupA, evNilCheck, aMove, MD, opds, evOp, asOper, one, two, evCallee, evAssign, aNew, evSlice, evField, evExtract, evFunc, pureOp, isCall, readOp, List.range', back, putBack, fuelR, closed, aStore, thawCells, place, pack, mapO, Nat.reduceEqDiff, Nat.reduceLT, maxNeed, i64_id, frzA, frzAs, memD, lentA, footC, ↓kc_s_l1Has, hc, hb, ↓ih]
      rw [e]
    | false =>
      have e : c + (cntB a j (i + 1) : Int) = c + cntB a (j + 1) i := by simp only [cntB, hb, Bool.false_eq_true, if_false]; omega
      rw [step_s_l1Place_0]
      simp only [S_s_l1Place_0, Try.f131, slimF, slimL, lpOf, codeOf, Option.getD_some, slim, loops, List.length_nil, Nat.add_zero, Nat.zero_add, slimO, slimG, List.map_cons, List.map_nil, List.getElem?_cons_zero, List.getElem?_cons_succ, Option.bind_some, Bool.false_eq_true, if_false, if_true, List.length_cons, List.replicate, List.cons_append, List.nil_append, List.append_nil, Nat.reduceAdd, Nat.reduceSub, List.getD_cons_zero, List.getD_cons_succ]
      simp -implicitDefEqProofs (maxSteps := 2000000) (disch := first | assumption | (refine Shut.mk ?_; kernel_rfl) | omega | (simp only [List.getElem?_cons_zero, List.getElem?_cons_succ]; done) | (simp only [List.length_append, List.length_cons, List.length_nil, List.length_set, List.length_replicate, List.length_map, List.length_take, List.length_drop] <;> omega)) only [↓WD, ↓kAsg, ↓kRet, ↓reduceIte, ↓clash_free, ↓WDD, ↓kOpD_callv, WK, thawAt, evPick, aPut, leavesBody, outA, outS, outSs, idsA, idsL, mapA, calmAs, calmA, calmSl, calmPt, genOf, calmH, calmFrom, calmO, mapAs, maskB, isUndef, tidy, Int.reduceLT, Int.reduceLE, Int.reduceEq, Int.reduceNe, Int.reduceNeg, Int.reduceAdd, Int.reduceSub, Int.reduceMul, Int.reduceToNat, Nat.reduceAdd, Nat.reduceSub, aBuiltin, aAppend, aAppend0, aAppendV, isVec, bears, emptyArr, sliceAs, keeps, aBuildVec, aMakeVec, sliceCells, aBuildSlice, aIndexAddr, aLoad, runOf, ofCells, TY, LB, aLen, withInt, fillA, frzL, listWith, frz, frz0, deep, cellsA, setRun, okCell, List.replicate, notJunk, Nat.reduceMul, Nat.reduceLeDiff, Nat.reducePow, Nat.reduceBEq, boxIds, aResults, aResult, outAs, tupA, evNilCheck, aMove, MD, opds, evOp, asOper, one, two, evCallee, evAssign, aNew, evSlice, evField, evExtract, evFunc, pureOp, isCall, readOp, List.range', back, putBack, fuelR, closed, aStore, thawCells, place, pack, mapO, Nat.reduceEqDiff, Nat.reduceLT, maxNeed, i64_id, frzA, frzAs, memD, lentA, footC, ↓kc_s_l1Has, hc, hb, ↓ih]
      rw [e]

theorem ev_s_l1Place {L n : Nat} (hn : 2 ≤ n) (a l : Int) (h0 : 0 ≤ l) (h1 : l < 6) (hL : 2 ^ 60 ≤ L) : evCall env L n 131 [.d (.int .i64 a), .d (.int .i64 l)] [] = some (.d (.int .i64 (placeI a l)), []) := by
  have loop_a := fun {R : Type} {n : Nat} (hn : 1 ≤ n) {k : Exit → List A → H → Option R} => loop_s_l1Place (R := R) (L := L) hn (a := a) h1 (k := k) l.toNat 0 0 L (by omega) (by omega) (by omega) (by omega) (by omega)
  rw [cntB_place h0 h1] at loop_a
  obtain ⟨n, rfl⟩ : ∃ m, n = m + 1 := ⟨n - 1, by omega⟩
  rw [fn_s_l1Place]
  simp only [S_s_l1Place, Try.f131, slimF, slimL, lpOf, codeOf, Option.getD_some, slim, loops, List.length_nil, Nat.add_zero, Nat.zero_add, slimO, slimG, List.map_cons, List.map_nil, List.getElem?_cons_zero, List.getElem?_cons_succ, Option.bind_some, Bool.false_eq_true, if_false, if_true, List.length_cons, List.replicate, List.cons_append, List.nil_append, List.append_nil, Nat.reduceAdd, Nat.reduceSub, List.getD_cons_zero, List.getD_cons_succ]
  simp -implicitDefEqProofs (maxSteps := 2000000) (disch := first | assumption | (refine Shut.mk ?_; kernel_rfl) | omega | (simp only [List.getElem?_cons_zero, List.getElem?_cons_succ]; done) | (simp only [List.length_append, List.length_cons, List.length_nil, List.length_set, List.length_replicate, List.length_map, List.length_take, List.length_drop] <;> omega)) only [↓WD, ↓kAsg, ↓kRet, ↓reduceIte, ↓clash_free, ↓WDD, ↓kOpD_callv, WK, thawAt, evPick, aPut, leavesBody, outA, outS, outSs, idsA, idsL, mapA, calmAs, calmA, calmSl, calmPt, genOf, calmH, calmFrom, calmO, mapAs, maskB, isUndef, tidy, Int.reduceLT, Int.reduceLE, Int.reduceEq, Int.reduceNe, Int.reduceNeg, Int.reduceAdd, Int.reduceSub, Int.reduceMul, Int.reduceToNat, Nat.reduceAdd, Nat.reduceSub, aBuiltin, aAppend, aAppend0, aAppendV, isVec, bears, emptyArr, sliceAs, keeps, aBuildVec, aMakeVec, sliceCells, aBuildSlice, aIndexAddr, aLoad, runOf, ofCells, TY, LB, aLen, withInt, fillA, frzL, listWith, frz, frz0, deep, cellsA, setRun, okCell, List.replicate, notJunk, Nat.reduceMul, Nat.reduceLeDiff, Nat.reducePow, Nat.reduceBEq, boxIds, aResults, aResult, outAs, tupA, evNilCheck, aMove, MD, opds, evOp, asOper, one, two, evCallee, evAssign, aNew, evSlice, evField, evExtract, evFunc, pureOp, isCall, readOp, List.range', back, putBack, fuelR, closed, aStore, thawCells, place, pack, mapO, Nat.reduceEqDiff, Nat.reduceLT, maxNeed, i64_id, frzA, frzAs, memD, lentA, footC, ↓kc_s_l1Has, ↓loop_s_l1Place, ↓loop_a, Int.zero_add]
theorem kc_s_l1Place {R : Type} {L n : Nat} {hq : H} {k : A → H → Option R} (hn : 2 ≤ n) (a l : Int) (h0 : 0 ≤ l) (h1 : l < 6) (hL : 2 ^ 60 ≤ L) : kCall env (evCall env L n) hq 131 [.d (.int .i64 a), .d (.int .i64 l)] k = k (.d (.int .i64 (placeI a l))) hq :=
  kCall_still rfl (ev_s_l1Place hn a l h0 h1 hL) rfl (.inl rfl)

theorem goI_not {al q l : Int} {rs : List (List Int)} (h : bitAt al l = false) : goI al rs q l = q := by
  unfold goI; rw [h]; rfl
theorem goI_bit {al q l : Int} {rs : List (List Int)} (h : bitAt al l = true) : goI al rs q l = (rs.getD q.toNat []).getD (placeI al l) 0 := by
  unfold goI; rw [if_pos h]

theorem ev_s_l3Go {L n : Nat} (hn : 3 ≤ n) (al q l : Int) (rs : List (List Int)) (z : Nat) (cs : List D) (hs : rowsShort rs) (hw : rowsWide (letters al).length rs) (hq0 : 0 ≤ q) (hq1 : q < rs.length) (h0 : 0 ≤ l) (h1 : l < 6) (hL : 2 ^ 60 ≤ L) : evCall env L n 93 [.agg [.d (.int .i64 al), .d (.ivs rs.length (rowsD rs)), .d (.ivs z cs)], .d (.int .i64 q), .d (.int .i64 l)] [] = some (.d (.int .i64 (goI al rs q l)), []) := by
  have hrl := hs.1
  have hk : q.toNat < rs.length := by omega
  have hrow := short_at hs hk
  have hrw := wide_at hw hk
  cases hb : bitAt al l with
  | false =>
    rw [goI_not hb]
    clear hrw
    obtain ⟨n, rfl⟩ : ∃ m, n = m + 1 := ⟨n - 1, by omega⟩
    rw [fn_s_l3Go]
    simp only [S_s_l3Go, Try.f93, slimF, slimL, lpOf, codeOf, Option.getD_some, slim, loops, List.length_nil, Nat.add_zero, Nat.zero_add, slimO, slimG, List.map_cons, List.map_nil, List.getElem?_cons_zero, List.getElem?_cons_succ, Option.bind_some, Bool.false_eq_true, if_false, if_true, List.length_cons, List.replicate, List.cons_append, List.nil_append, List.append_nil, Nat.reduceAdd, Nat.reduceSub, List.getD_cons_zero, List.getD_cons_succ]
    simp -implicitDefEqProofs (maxSteps := 2000000) (disch := first | assumption | (refine Shut.mk ?_; kernel_rfl) | omega | (simp only [List.getElem?_cons_zero, List.getElem?_cons_succ]; done) | (simp only [List.length_append, List.length_cons, List.length_nil, List.length_set, List.length_replicate, List.length_map, List.length_take, List.length_drop] <;> omega)) only [↓WD, ↓kAsg, ↓kRet, ↓reduceIte, ↓clash_free, ↓WDD, ↓kOpD_callv, WK, thawAt, evPick, aPut, leavesBody, outA, outS, outSs, idsA, idsL, mapA, calmAs, calmA, calmSl, calmPt, genOf, calmH, calmFrom, calmO, mapAs, maskB, isUndef, tidy, Int.reduceLT, Int.reduceLE, Int.reduceEq, Int.reduceNe, Int.reduceNeg, Int.reduceAdd, Int.reduceSub, Int.reduceMul, Int.reduceToNat, Nat.reduceAdd, Nat.reduceSub, aBuiltin, aAppend, aAppend0, aAppendV, isVec, bears, emptyArr, sliceAs, keeps, aBuildVec, aMakeVec, sliceCells, aBuildSlice, aIndexAddr, aLoad, runOf, ofCells, TY, LB, aLen, withInt, fillA, frzL, listWith, frz, frz0, deep, cellsA, setRun, okCell, List.replicate, notJunk, Nat.reduceMul, Nat.reduceLeDiff, Nat.reducePow, Nat.reduceBEq, boxIds, aResults, aResult, outAs, tupA, evNilCheck, aMove, MD, opds, evOp, asOper, one, two, evCallee, evAssign, aNew, evSlice, evField, evExtract, evFunc, pureOp, isCall, readOp, List.range', back, putBack, fuelR, closed, aStore, thawCells, place, pack, mapO, Nat.reduceEqDiff, Nat.reduceLT, maxNeed, i64_id, frzA, frzAs, memD, lentA, footC, ↓kc_s_l1Has, ↓kc_s_l1Place, LA, hb]
  | true =>
    rw [goI_bit hb]
    have hp := (place_lt6 h0 h1 hb).1
    have hp2 : placeI al l < (rs.getD q.toNat []).length := by omega
    have hp3 : (placeI al l : Int) < (rs.getD q.toNat []).length := by omega
    have hp4 : ((placeI al l : Nat) : Int).toNat = placeI al l := Int.toNat_natCast _
    clear hrw hp
    obtain ⟨n, rfl⟩ : ∃ m, n = m + 1 := ⟨n - 1, by omega⟩
    rw [fn_s_l3Go]
    simp only [S_s_l3Go, Try.f93, slimF, slimL, lpOf, codeOf, Option.getD_some, slim, loops, List.length_nil, Nat.add_zero, Nat.zero_add, slimO, slimG, List.map_cons, List.map_nil, List.getElem?_cons_zero, List.getElem?_cons_succ, Option.bind_some, Bool.false_eq_true, if_false, if_true, List.length_cons, List.replicate, List.cons_append, List.nil_append, List.append_nil, Nat.reduceAdd, Nat.reduceSub, List.getD_cons_zero, List.getD_cons_succ]
    simp -implicitDefEqProofs (maxSteps := 2000000) (disch := first | assumption | (refine Shut.mk ?_; kernel_rfl) | omega | (simp only [List.getElem?_cons_zero, List.getElem?_cons_succ]; done) | (simp only [List.length_append, List.length_cons, List.length_nil, List.length_set, List.length_replicate, List.length_map, List.length_take, List.length_drop] <;> omega)) only [↓WD, ↓kAsg, ↓kRet, ↓reduceIte, ↓clash_free, ↓WDD, ↓kOpD_callv, WK, thawAt, evPick, aPut, leavesBody, outA, outS, outSs, idsA, idsL, mapA, calmAs, calmA, calmSl, calmPt, genOf, calmH, calmFrom, calmO, mapAs, maskB, isUndef, tidy, Int.reduceLT, Int.reduceLE, Int.reduceEq, Int.reduceNe, Int.reduceNeg, Int.reduceAdd, Int.reduceSub, Int.reduceMul, Int.reduceToNat, Nat.reduceAdd, Nat.reduceSub, aBuiltin, aAppend, aAppend0, aAppendV, isVec, bears, emptyArr, sliceAs, keeps, aBuildVec, aMakeVec, sliceCells, aBuildSlice, aIndexAddr, aLoad, runOf, ofCells, TY, LB, aLen, withInt, fillA, frzL, listWith, frz, frz0, deep, cellsA, setRun, okCell, List.replicate, notJunk, Nat.reduceMul, Nat.reduceLeDiff, Nat.reducePow, Nat.reduceBEq, boxIds, aResults, aResult, outAs, tupA, evNilCheck, aMove, MD, opds, evOp, asOper, one, two, evCallee, evAssign, aNew, evSlice, evField, evExtract, evFunc, pureOp, isCall, readOp, List.range', back, putBack, fuelR, closed, aStore, thawCells, place, pack, mapO, Nat.reduceEqDiff, Nat.reduceLT, maxNeed, i64_id, frzA, frzAs, memD, lentA, footC, ↓kc_s_l1Has, ↓kc_s_l1Place, LA, hb, u_ints, u_intss, c_ints, c_int, hp4]
theorem kc_s_l3Go {R : Type} {L n : Nat} {hq : H} {k : A → H → Option R} (hn : 3 ≤ n) (al q l : Int) (rs : List (List Int)) (z : Nat) (cs : List D) (hs : rowsShort rs) (hw : rowsWide (letters al).length rs) (hq0 : 0 ≤ q) (hq1 : q < rs.length) (h0 : 0 ≤ l) (h1 : l < 6) (hL : 2 ^ 60 ≤ L) : kCall env (evCall env L n) hq 93 [.agg [.d (.int .i64 al), .d (.ivs rs.length (rowsD rs)), .d (.ivs z cs)], .d (.int .i64 q), .d (.int .i64 l)] k = k (.d (.int .i64 (goI al rs q l))) hq :=
  kCall_still rfl (ev_s_l3Go hn al q l rs z cs hs hw hq0 hq1 h0 h1 hL) rfl (.inl rfl)
theorem kl_s_l3Go {R : Type} {L n : Nat} {k : A → Option R} (hn : 3 ≤ n) (al q l : Int) (rs : List (List Int)) (z : Nat) (cs : List D) (hs : rowsShort rs) (hw : rowsWide (letters al).length rs) (hq0 : 0 ≤ q) (hq1 : q < rs.length) (h0 : 0 ≤ l) (h1 : l < 6) (hL : 2 ^ 60 ≤ L) : kLent (evCall env L n) 93 [.agg [.d (.int .i64 al), .d (.ivs rs.length (rowsD rs)), .d (.ivs z cs)], .d (.int .i64 q), .d (.int .i64 l)] k = k (.d (.int .i64 (goI al rs q l))) :=
  kLent_ev (ev_s_l3Go hn al q l rs z cs hs hw hq0 hq1 h0 h1 hL) rfl
theorem kv_s_l3Go_1 {R : Type} {L n : Nat} {hq : H} {k : A → H → Option R} {id0 g0 o0 len0 : Nat} {al q l : Int} {z : Nat} {cs : List D} : kCall env (evCall env L n) hq 93 [.agg [.d (.int .i64 al), .sl id0 g0 o0 len0, .d (.ivs z cs)], .d (.int .i64 q), .d (.int .i64 l)] k = match box (lentA hq [.agg [.d (.int .i64 al), .sl id0 g0 o0 len0, .d (.ivs z cs)], .d (.int .i64 q), .d (.int .i64 l)]) with
    | .mk (some fs) => kLent (evCall env L n) 93 fs fun r => k r hq
    | _ => none := kCall_lent mode_s_l3Go
theorem kv_s_l3Go_2 {R : Type} {L n : Nat} {hq : H} {k : A → H → Option R} {id1 g1 o1 len1 : Nat} {al q l : Int} {rs : List (List Int)} : kCall env (evCall env L n) hq 93 [.agg [.d (.int .i64 al), .d (.ivs rs.length (rowsD rs)), .sl id1 g1 o1 len1], .d (.int .i64 q), .d (.int .i64 l)] k = match box (lentA hq [.agg [.d (.int .i64 al), .d (.ivs rs.length (rowsD rs)), .sl id1 g1 o1 len1], .d (.int .i64 q), .d (.int .i64 l)]) with
    | .mk (some fs) => kLent (evCall env L n) 93 fs fun r => k r hq
    | _ => none := kCall_lent mode_s_l3Go
theorem kv_s_l3Go_3 {R : Type} {L n : Nat} {hq : H} {k : A → H → Option R} {id1 g1 o1 len1 : Nat} {id0 g0 o0 len0 : Nat} {al q l : Int} : kCall env (evCall env L n) hq 93 [.agg [.d (.int .i64 al), .sl id0 g0 o0 len0, .sl id1 g1 o1 len1], .d (.int .i64 q), .d (.int .i64 l)] k = match box (lentA hq [.agg [.d (.int .i64 al), .sl id0 g0 o0 len0, .sl id1 g1 o1 len1], .d (.int .i64 q), .d (.int .i64 l)]) with
    | .mk (some fs) => kLent (evCall env L n) 93 fs fun r => k r hq
    | _ => none := kCall_lent mode_s_l3Go

/-! ### automata with exchanged letters -/

def rowSw (al : Int) (rs : List (List Int)) (x y : Int) (ls : List Int) (q : Int) : List Int := ls.map fun l => goI al rs q (swapI l x y)
def rowsSw (al : Int) (rs : List (List Int)) (x y : Int) (ls : List Int) (i j : Nat) : List (List Int) := (List.range' i j).map fun (q : Nat) => rowSw al rs x y ls q
def swapOK (al : Int) (rs : List (List Int)) (ac : List Bool) (x y : Int) : Bool := autOK al rs ac && isLet x && isLet y

theorem rowsSw_succ {al : Int} {rs : List (List Int)} {x y : Int} {ls : List Int} {i j : Nat} : rowsSw al rs x y ls i (j + 1) = rowSw al rs x y ls i :: rowsSw al rs x y ls (i + 1) j := by
  simp [rowsSw, List.range'_succ]
theorem rowsSw_len {al : Int} {rs : List (List Int)} {x y : Int} {ls : List Int} {i j : Nat} : (rowsSw al rs x y ls i j).length = j := by simp [rowsSw]

theorem rows_snoc {l : List (List Int)} {r : List Int} {z : Nat} (h : z = r.length) : rowsD l ++ [.ivs z (ints r)] = rowsD (l ++ [r]) := by
  subst h
  simp [rowsD, rowD]
theorem rowsD_nil : rowsD [] = [] := rfl
theorem bools_nil : bools [] = [] := rfl

/-- The cells of rows that are still none are not said to have a size. -/
def eR (l : List (List Int)) : Nat := if l = [] then 0 else 1
theorem eR_snoc {l : List (List Int)} {r : List Int} : eR (l ++ [r]) = 1 := by simp [eR]
theorem eR_or (l : List (List Int)) : eR l = 0 ∨ eR l = 1 := by unfold eR; split <;> simp

theorem rowSw_go {al : Int} {rs : List (List Int)} {x y q : Int} {ls : List Int} {i : Nat} (h : i < ls.length) : rowSw al rs x y (ls.drop i) q = goI al rs q (swapI (ls.getD i 0) x y) :: rowSw al rs x y (ls.drop (i + 1)) q := by
  rw [drop_go h (d := 0)]
  rfl

theorem loop_s_SwapAutomaton_1 {R : Type} {L n : Nat} (hn : 4 ≤ n) (hL : 2 ^ 60 ≤ L) {al al2 x y q : Int} {rs : List (List Int)} {z : Nat} {cs cs2 cn : List D} {e d : Nat} (hs : rowsShort rs) (hw : rowsWide (letters al).length rs) (hq0 : 0 ≤ q) (hq1 : q < rs.length) (hx0 : 0 ≤ x) (hx1 : x ≤ 5) (hy0 : 0 ≤ y) (hy1 : y ≤ 5) {ls : List Int} (hls : ∀ v ∈ ls, 0 ≤ v ∧ v ≤ 5) (hll : ls.length ≤ 6) {k : Exit → List A → H → Option R} : ∀ (j : Nat) (i : Int) (m : Nat) (r : List Int) (len : Nat) (h0 : 0 ≤ i) (hi : i + j = ls.length) (hm : j < m) (hr : r.length ≤ 6 - j) (hlen : len = r.length),
    kLoop env (evCall env L n) L 0 [] (false :: true :: true :: true :: false :: false :: true :: true :: true :: true :: true :: true :: true :: false :: false :: false :: false :: false :: false :: false :: false :: false :: false :: false :: false :: false :: false :: false :: false :: false :: false :: false :: false :: false :: false :: false :: false :: false :: false :: false :: false :: false :: false :: false :: false :: false :: false :: false :: false :: false :: false :: false :: false :: false :: false :: false :: false :: false :: false :: false :: false :: false :: false :: false :: false :: false :: false :: false :: false :: false :: false :: false :: false :: false :: []) (lp_s_SwapAutomaton 1) (true :: false :: false :: false :: true :: true :: false :: false :: false :: false :: false :: false :: false :: true :: true :: true :: true :: true :: true :: true :: true :: true :: true :: true :: true :: true :: true :: true :: true :: true :: true :: true :: true :: true :: true :: true :: true :: true :: true :: true :: true :: true :: true :: true :: true :: true :: true :: true :: true :: true :: true :: true :: true :: true :: true :: true :: true :: true :: true :: true :: true :: true :: true :: true :: true :: true :: true :: true :: true :: true :: true :: true :: true :: true :: []) m (.junk :: .d (.int .i64 x) :: .d (.int .i64 y) :: .ptr 0 0 0 :: .junk :: .junk :: .ptr 1 0 0 :: .d (.bool false) :: .ptr 2 0 0 :: .d (.ivs ls.length (ints ls)) :: .d (.int .i64 q) :: .sl 3 0 0 len :: .d (.int .i64 i) :: .junk :: .junk :: .junk :: .junk :: .junk :: .junk :: .junk :: .junk :: .junk :: .junk :: .junk :: .junk :: .junk :: .junk :: .junk :: .junk :: .junk :: .junk :: .junk :: .junk :: .junk :: .junk :: .junk :: .junk :: .junk :: .junk :: .junk :: .junk :: .junk :: .junk :: .junk :: .junk :: .junk :: .junk :: .junk :: .junk :: .junk :: .junk :: .junk :: .junk :: .junk :: .junk :: .junk :: .junk :: .junk :: .junk :: .junk :: .junk :: .junk :: .junk :: .junk :: .junk :: .junk :: .junk :: .junk :: .junk :: .junk :: .junk :: .junk :: .junk :: .junk :: []) [.box [.d (.int .i64 al), .d (.ivs rs.length (rowsD rs)), .d (.ivs z cs)], .box [.d (.int .i64 0), .sl 4 0 0 0, .sl 5 0 0 0], .box [.d (.int .i64 al2), .sl 6 0 0 d, .sl 7 0 0 z], .arr (ints r) 1 0, .arr [] 0 0, .arr [] 0 0, .arr cn e 0, .arr cs2 1 0] k
    = k (.exit 2) (.junk :: .d (.int .i64 x) :: .d (.int .i64 y) :: .ptr 0 0 0 :: .junk :: .junk :: .ptr 1 0 0 :: .d (.bool false) :: .ptr 2 0 0 :: .d (.ivs ls.length (ints ls)) :: .d (.int .i64 q) :: .sl 3 0 0 (r.length + (rowSw al rs x y (ls.drop i.toNat) q).length) :: .d (.int .i64 (ls.length)) :: .junk :: .junk :: .junk :: .junk :: .junk :: .junk :: .junk :: .junk :: .junk :: .junk :: .junk :: .junk :: .junk :: .junk :: .junk :: .junk :: .junk :: .junk :: .junk :: .junk :: .junk :: .junk :: .junk :: .junk :: .junk :: .junk :: .junk :: .junk :: .junk :: .junk :: .junk :: .junk :: .junk :: .junk :: .junk :: .junk :: .junk :: .junk :: .junk :: .junk :: .junk :: .junk :: .junk :: .junk :: .junk :: .junk :: .junk :: .junk :: .junk :: .junk :: .junk :: .junk :: .junk :: .junk :: .junk :: .junk :: .junk :: .junk :: .junk :: .junk :: .junk :: []) [.box [.d (.int .i64 al), .d (.ivs rs.length (rowsD rs)), .d (.ivs z cs)], .box [.d (.int .i64 0), .sl 4 0 0 0, .sl 5 0 0 0], .box [.d (.int .i64 al2), .sl 6 0 0 d, .sl 7 0 0 z], .arr (ints (r ++ rowSw al rs x y (ls.drop i.toNat) q)) 1 0, .arr [] 0 0, .arr [] 0 0, .arr cn e 0, .arr cs2 1 0] := by
  intro j
  have hrl := hs.1
  induction j with
  | zero =>
    intro i m r len h0 hi hm hr hlen
    obtain ⟨m, rfl⟩ : ∃ q, m = q + 1 := ⟨m - 1, by omega⟩
    obtain rfl : i = ls.length := by omega
    rw [step_s_SwapAutomaton_1]
    simp only [S_s_SwapAutomaton_1, Try.f33, slimF, slimL, lpOf, codeOf, Option.getD_some, slim, loops, List.length_nil, Nat.add_zero, Nat.zero_add, slimO, slimG, List.map_cons, List.map_nil, List.getElem?_cons_zero, List.getElem?_cons_succ, Option.bind_some, Bool.false_eq_true, if_false, if_true, List.length_cons, List.replicate, List.cons_append, List.nil_append, List.append_nil, Nat.reduceAdd, Nat.reduceSub, List.getD_cons_zero, List.getD_cons_succ]
    simp -implicitDefEqProofs (maxSteps := 2000000) (disch := first | assumption | (refine Shut.mk ?_; kernel_rfl) | omega | (simp only [List.getElem?_cons_zero, List.getElem?_cons_succ]; done) | (simp only [List.length_append, List.length_cons, List.length_nil, List.length_set, List.length_replicate, List.length_map, List.length_take, List.length_drop] <;> omega)) only [↓WD, ↓kAsg, ↓kRet, ↓reduceIte, ↓clash_free, ↓WDD, ↓kOpD_callv, WK, thawAt, evPick, aPut, leavesBody, outA, outS, outSs, idsA, idsL, mapA, calmAs, calmA, calmSl, calmPt, genOf, calmH, calmFrom, calmO, mapAs, maskB, isUndef, tidy, Int.reduceLT, Int.reduceLE, Int.reduceEq, Int.reduceNe, Int.reduceNeg, Int.reduceAdd, Int.reduceSub, Int.reduceMul, Int.reduceToNat, Nat.reduceAdd, Nat.reduceSub, aBuiltin, aAppend, aAppend0, aAppendV, isVec, bears, emptyArr, sliceAs, keeps, aBuildVec, aMakeVec, sliceCells, aBuildSlice, aIndexAddr, aLoad, runOf, ofCells, TY, LB, aLen, withInt, fillA, frzL, listWith, frz, frz0, deep, cellsA, setRun, okCell, List.replicate, notJunk, Nat.reduceMul, Nat.reduceLeDiff, Nat.reducePow, Nat.reduceBEq, boxIds, aResults, aResult, outAs, tupA, evNilCheck, aMove, MD, opds, evOp, asOper, one, two, evCallee, evAssign, aNew, evSlice, evField, evExtract, evFunc, pureOp, isCall, readOp, List.range', back, putBack, fuelR, closed, aStore, thawCells, place, pack, mapO, Nat.reduceEqDiff, Nat.reduceLT, maxNeed, i64_id, frzA, frzAs, memD, lentA, footC, ↓kc_s_AutomatonValid, ↓kc_s_l17Letter, ↓kc_s_SwapAlphabet, ↓kc_s_l1Letters, ↓kc_s_l17Swap, ↓kc_s_l3Go, ↓kl_s_AutomatonValid, ↓kl_s_l3Go, ↓kv_s_AutomatonValid_1, ↓kv_s_AutomatonValid_2, ↓kv_s_AutomatonValid_3, ↓kv_s_l3Go_1, ↓kv_s_l3Go_2, ↓kv_s_l3Go_3, LA, Int.lt_irrefl, hlen]
    simp only [Int.toNat_natCast, List.drop_length, rowSw, List.map_nil, List.append_nil, List.length_nil, Nat.add_zero]
  | succ j ih =>
    intro i m r len h0 hi hm hr hlen
    obtain ⟨m, rfl⟩ : ∃ q, m = q + 1 := ⟨m - 1, by omega⟩
    subst hlen
    have hc : i < ls.length := by omega
    have hk : i.toNat < ls.length := by omega
    have hv := getD_all hls hk
    have hs1 := swapI_let hv.1 hx0 hy0
    have hs2 := swapI_le (b := 5) hv.2 hx1 hy1
    have hs3 : swapI (ls.getD i.toNat 0) x y < 6 := by omega
    have e1 : (i + 1).toNat = i.toNat + 1 := by omega
    have hrr : (r ++ [goI al rs q (swapI (ls.getD i.toNat 0) x y)]).length ≤ 6 - j := by simp; omega
    have hr6 : r.length ≤ 6 := by omega
    clear hv
    rw [step_s_SwapAutomaton_1]
    simp only [S_s_SwapAutomaton_1, Try.f33, slimF, slimL, lpOf, codeOf, Option.getD_some, slim, loops, List.length_nil, Nat.add_zero, Nat.zero_add, slimO, slimG, List.map_cons, List.map_nil, List.getElem?_cons_zero, List.getElem?_cons_succ, Option.bind_some, Bool.false_eq_true, if_false, if_true, List.length_cons, List.replicate, List.cons_append, List.nil_append, List.append_nil, Nat.reduceAdd, Nat.reduceSub, List.getD_cons_zero, List.getD_cons_succ]
    simp -implicitDefEqProofs (maxSteps := 2000000) (disch := first | assumption | (refine Shut.mk ?_; kernel_rfl) | omega | (simp only [List.getElem?_cons_zero, List.getElem?_cons_succ]; done) | (simp only [List.length_append, List.length_cons, List.length_nil, List.length_set, List.length_replicate, List.length_map, List.length_take, List.length_drop] <;> omega)) only [↓WD, ↓kAsg, ↓kRet, ↓reduceIte, ↓clash_free, ↓WDD, ↓kOpD_callv, WK, thawAt, evPick, aPut, leavesBody, outA, outS, outSs, idsA, idsL, mapA, calmAs, calmA, calmSl, calmPt, genOf, calmH, calmFrom, calmO, mapAs, maskB, isUndef, tidy, Int.reduceLT, Int.reduceLE, Int.reduceEq, Int.reduceNe, Int.reduceNeg, Int.reduceAdd, Int.reduceSub, Int.reduceMul, Int.reduceToNat, Nat.reduceAdd, Nat.reduceSub, aBuiltin, aAppend, aAppend0, aAppendV, isVec, bears, emptyArr, sliceAs, keeps, aBuildVec, aMakeVec, sliceCells, aBuildSlice, aIndexAddr, aLoad, runOf, ofCells, TY, LB, aLen, withInt, fillA, frzL, listWith, frz, frz0, deep, cellsA, setRun, okCell, List.replicate, notJunk, Nat.reduceMul, Nat.reduceLeDiff, Nat.reducePow, Nat.reduceBEq, boxIds, aResults, aResult, outAs, tupA, evNilCheck, aMove, MD, opds, evOp, asOper, one, two, evCallee, evAssign, aNew, evSlice, evField, evExtract, evFunc, pureOp, isCall, readOp, List.range', back, putBack, fuelR, closed, aStore, thawCells, place, pack, mapO, Nat.reduceEqDiff, Nat.reduceLT, maxNeed, i64_id, frzA, frzAs, memD, lentA, footC, ↓kc_s_AutomatonValid, ↓kc_s_l17Letter, ↓kc_s_SwapAlphabet, ↓kc_s_l1Letters, ↓kc_s_l17Swap, ↓kc_s_l3Go, ↓kl_s_AutomatonValid, ↓kl_s_l3Go, ↓kv_s_AutomatonValid_1, ↓kv_s_AutomatonValid_2, ↓kv_s_AutomatonValid_3, ↓kv_s_l3Go_1, ↓kv_s_l3Go_2, ↓kv_s_l3Go_3, LA, hc, u_ints, c_int, ints_take, ints_snoc, List.length_append, ↓ih]
    rw [rowSw_go hk, e1]
    simp only [List.append_assoc, List.cons_append, List.nil_append, List.length_append, List.length_cons, List.length_nil, Nat.add_assoc, Nat.add_comm 1, Nat.zero_add]

theorem rowSw_len {al : Int} {rs : List (List Int)} {x y q : Int} {ls : List Int} : (rowSw al rs x y ls q).length = ls.length := by simp [rowSw]

theorem loop_s_SwapAutomaton_0 {R : Type} {L n : Nat} (hn : 4 ≤ n) (hL : 2 ^ 60 ≤ L) {al al2 x y : Int} {rs : List (List Int)} {z : Nat} {cs cs2 : List D} (hs : rowsShort rs) (hw : rowsWide (letters al).length rs) (hx0 : 0 ≤ x) (hx1 : x ≤ 5) (hy0 : 0 ≤ y) (hy1 : y ≤ 5) {ls : List Int} (hls : ∀ v ∈ ls, 0 ≤ v ∧ v ≤ 5) (hll : ls.length ≤ 6) {k : Exit → List A → H → Option R} : ∀ (j : Nat) (i : Int) (m : Nat) (d : List (List Int)) (len e : Nat) (h0 : 0 ≤ i) (hi : i + j = rs.length) (hm : j < m) (hd : (d.length : Int) ≤ i) (hlen : len = d.length) (he : e = eR d),
    kLoop env (evCall env L n) L 0 [] (false :: true :: true :: true :: false :: false :: true :: true :: true :: true :: true :: true :: true :: false :: false :: false :: false :: false :: false :: false :: false :: false :: false :: false :: false :: false :: false :: false :: false :: false :: false :: false :: false :: false :: false :: false :: false :: false :: false :: false :: false :: false :: false :: false :: false :: false :: false :: false :: false :: false :: false :: false :: false :: false :: false :: false :: false :: false :: false :: false :: false :: false :: false :: false :: false :: false :: false :: false :: false :: false :: false :: false :: false :: false :: []) (lp_s_SwapAutomaton 0) (true :: false :: false :: false :: true :: true :: false :: false :: false :: false :: false :: true :: true :: true :: true :: true :: true :: true :: true :: true :: true :: true :: true :: true :: true :: true :: true :: true :: true :: true :: true :: true :: true :: true :: true :: true :: true :: true :: true :: true :: true :: true :: true :: true :: true :: true :: true :: true :: true :: true :: true :: true :: true :: true :: true :: true :: true :: true :: true :: true :: true :: true :: true :: true :: true :: true :: true :: true :: true :: true :: true :: true :: true :: true :: []) m (.junk :: .d (.int .i64 x) :: .d (.int .i64 y) :: .ptr 0 0 0 :: .junk :: .junk :: .ptr 1 0 0 :: .d (.bool false) :: .ptr 2 0 0 :: .d (.ivs ls.length (ints ls)) :: .d (.int .i64 i) :: .junk :: .junk :: .junk :: .junk :: .junk :: .junk :: .junk :: .junk :: .junk :: .junk :: .junk :: .junk :: .junk :: .junk :: .junk :: .junk :: .junk :: .junk :: .junk :: .junk :: .junk :: .junk :: .junk :: .junk :: .junk :: .junk :: .junk :: .junk :: .junk :: .junk :: .junk :: .junk :: .junk :: .junk :: .junk :: .junk :: .junk :: .junk :: .junk :: .junk :: .junk :: .junk :: .junk :: .junk :: .junk :: .junk :: .junk :: .junk :: .junk :: .junk :: .junk :: .junk :: .junk :: .junk :: .junk :: .junk :: .junk :: .junk :: .junk :: .junk :: .junk :: .junk :: .junk :: []) [.box [.d (.int .i64 al), .d (.ivs rs.length (rowsD rs)), .d (.ivs z cs)], .box [.d (.int .i64 0), .sl 3 0 0 0, .sl 4 0 0 0], .box [.d (.int .i64 al2), .sl 5 0 0 len, .sl 6 0 0 z], .arr [] 0 0, .arr [] 0 0, .arr (rowsD d) e 0, .arr cs2 1 0] k
    = k (.exit 0) (.junk :: .d (.int .i64 x) :: .d (.int .i64 y) :: .ptr 0 0 0 :: .junk :: .junk :: .ptr 1 0 0 :: .d (.bool false) :: .ptr 2 0 0 :: .d (.ivs ls.length (ints ls)) :: .d (.int .i64 (rs.length)) :: .junk :: .junk :: .junk :: .junk :: .junk :: .junk :: .junk :: .junk :: .junk :: .junk :: .junk :: .junk :: .junk :: .junk :: .junk :: .junk :: .junk :: .junk :: .junk :: .junk :: .junk :: .junk :: .junk :: .junk :: .junk :: .junk :: .junk :: .junk :: .junk :: .junk :: .junk :: .junk :: .junk :: .junk :: .junk :: .junk :: .junk :: .junk :: .junk :: .junk :: .junk :: .junk :: .junk :: .junk :: .junk :: .junk :: .junk :: .junk :: .junk :: .junk :: .junk :: .junk :: .junk :: .junk :: .junk :: .junk :: .junk :: .junk :: .junk :: .junk :: .junk :: .junk :: .junk :: []) [.box [.d (.int .i64 al), .d (.ivs rs.length (rowsD rs)), .d (.ivs z cs)], .box [.d (.int .i64 0), .sl 3 0 0 0, .sl 4 0 0 0], .box [.d (.int .i64 al2), .sl 5 0 0 (d ++ rowsSw al rs x y ls i.toNat j).length, .sl 6 0 0 z], .arr [] 0 0, .arr [] 0 0, .arr (rowsD (d ++ rowsSw al rs x y ls i.toNat j)) (eR (d ++ rowsSw al rs x y ls i.toNat j)) 0, .arr cs2 1 0] := by
  intro j
  have hrl := hs.1
  induction j with
  | zero =>
    intro i m d len e h0 hi hm hd hlen he
    obtain ⟨m, rfl⟩ : ∃ q, m = q + 1 := ⟨m - 1, by omega⟩
    obtain rfl : i = rs.length := by omega
    subst hlen
    subst he
    have e1 : rowsSw al rs x y ls (rs.length : Int).toNat 0 = [] := rfl
    rw [e1, List.append_nil]
    rw [step_s_SwapAutomaton_0]
    simp only [S_s_SwapAutomaton_0, Try.f33, slimF, slimL, lpOf, codeOf, Option.getD_some, slim, loops, List.length_nil, Nat.add_zero, Nat.zero_add, slimO, slimG, List.map_cons, List.map_nil, List.getElem?_cons_zero, List.getElem?_cons_succ, Option.bind_some, Bool.false_eq_true, if_false, if_true, List.length_cons, List.replicate, List.cons_append, List.nil_append, List.append_nil, Nat.reduceAdd, Nat.reduceSub, List.getD_cons_zero, List.getD_cons_succ]
    simp -implicitDefEqProofs (maxSteps := 2000000) (disch := first | assumption | (refine Shut.mk ?_; kernel_rfl) | omega | (simp only [List.getElem?_cons_zero, List.getElem?_cons_succ]; done) | (simp only [List.length_append, List.length_cons, List.length_nil, List.length_set, List.length_replicate, List.length_map, List.length_take, List.length_drop] <;> omega)) only [↓WD, ↓kAsg, ↓kRet, ↓reduceIte, ↓clash_free, ↓WDD, ↓kOpD_callv, WK, thawAt, evPick, aPut, leavesBody, outA, outS, outSs, idsA, idsL, mapA, calmAs, calmA, calmSl, calmPt, genOf, calmH, calmFrom, calmO, mapAs, maskB, isUndef, tidy, Int.reduceLT, Int.reduceLE, Int.reduceEq, Int.reduceNe, Int.reduceNeg, Int.reduceAdd, Int.reduceSub, Int.reduceMul, Int.reduceToNat, Nat.reduceAdd, Nat.reduceSub, aBuiltin, aAppend, aAppend0, aAppendV, isVec, bears, emptyArr, sliceAs, keeps, aBuildVec, aMakeVec, sliceCells, aBuildSlice, aIndexAddr, aLoad, runOf, ofCells, TY, LB, aLen, withInt, fillA, frzL, listWith, frz, frz0, deep, cellsA, setRun, okCell, List.replicate, notJunk, Nat.reduceMul, Nat.reduceLeDiff, Nat.reducePow, Nat.reduceBEq, boxIds, aResults, aResult, outAs, tupA, evNilCheck, aMove, MD, opds, evOp, asOper, one, two, evCallee, evAssign, aNew, evSlice, evField, evExtract, evFunc, pureOp, isCall, readOp, List.range', back, putBack, fuelR, closed, aStore, thawCells, place, pack, mapO, Nat.reduceEqDiff, Nat.reduceLT, maxNeed, i64_id, frzA, frzAs, memD, lentA, footC, ↓kc_s_AutomatonValid, ↓kc_s_l17Letter, ↓kc_s_SwapAlphabet, ↓kc_s_l1Letters, ↓kc_s_l17Swap, ↓kc_s_l3Go, ↓kl_s_AutomatonValid, ↓kl_s_l3Go, ↓kv_s_AutomatonValid_1, ↓kv_s_AutomatonValid_2, ↓kv_s_AutomatonValid_3, ↓kv_s_l3Go_1, ↓kv_s_l3Go_2, ↓kv_s_l3Go_3, ↓loop_s_SwapAutomaton_1, LA, Int.lt_irrefl]
  | succ j ih =>
    intro i m d len e h0 hi hm hd hlen he
    obtain ⟨m, rfl⟩ : ∃ q, m = q + 1 := ⟨m - 1, by omega⟩
    subst hlen
    have hc : i < rs.length := by omega
    have hk : i.toNat < rs.length := by omega
    have e1 : (i + 1).toNat = i.toNat + 1 := by omega
    have e2 : ((i.toNat : Nat) : Int) = i := by omega
    have loop_a := fun {R : Type} {k : Exit → List A → H → Option R} => loop_s_SwapAutomaton_1 (R := R) (L := L) (n := n) hn hL (al := al) (al2 := al2) (q := i) (z := z) (cs := cs) (cs2 := cs2) (cn := rowsD d) (e := e) (d := d.length) hs hw h0 hc hx0 hx1 hy0 hy1 hls hll (k := k) ls.length 0 L [] 0 (by omega) (by omega) (by omega) (by simp) rfl
    simp only [Int.toNat_zero, List.drop_zero, List.nil_append, List.length_nil, Nat.zero_add, ints_nil] at loop_a
    have hd2 : ((d ++ [rowSw al rs x y ls i]).length : Int) ≤ i + 1 := by simp; omega
    have hd3 : d.length ≤ 4294967295 := by omega
    have ht : (rowsD d).take d.length = rowsD d := rows_take (Nat.le_refl _)
    have hrw : (rowSw al rs x y ls i).length ≤ 6 := by rw [rowSw_len]; exact hll
    have he2 : 1 = eR (d ++ [rowSw al rs x y ls i]) := eR_snoc.symm
    have hl2 : d.length + 1 = (d ++ [rowSw al rs x y ls i]).length := by simp
    rw [rowsSw_succ, e2]
    rcases eR_or d with h1 | h1
    · have he0 : e = 0 := by omega
      subst he0
      rw [step_s_SwapAutomaton_0]
      simp only [S_s_SwapAutomaton_0, Try.f33, slimF, slimL, lpOf, codeOf, Option.getD_some, slim, loops, List.length_nil, Nat.add_zero, Nat.zero_add, slimO, slimG, List.map_cons, List.map_nil, List.getElem?_cons_zero, List.getElem?_cons_succ, Option.bind_some, Bool.false_eq_true, if_false, if_true, List.length_cons, List.replicate, List.cons_append, List.nil_append, List.append_nil, Nat.reduceAdd, Nat.reduceSub, List.getD_cons_zero, List.getD_cons_succ]
      simp -implicitDefEqProofs (maxSteps := 2000000) (disch := first | assumption | (refine Shut.mk ?_; kernel_rfl) | omega | (simp only [List.getElem?_cons_zero, List.getElem?_cons_succ]; done) | (simp only [List.length_append, List.length_cons, List.length_nil, List.length_set, List.length_replicate, List.length_map, List.length_take, List.length_drop] <;> omega)) only [↓WD, ↓kAsg, ↓kRet, ↓reduceIte, ↓clash_free, ↓WDD, ↓kOpD_callv, WK, thawAt, evPick, aPut, leavesBody, outA, outS, outSs, idsA, idsL, mapA, calmAs, calmA, calmSl, calmPt, genOf, calmH, calmFrom, calmO, mapAs, maskB, isUndef, tidy, Int.reduceLT, Int.reduceLE, Int.reduceEq, Int.reduceNe, Int.reduceNeg, Int.reduceAdd, Int.reduceSub, Int.reduceMul, Int.reduceToNat, Nat.reduceAdd, Nat.reduceSub, aBuiltin, aAppend, aAppend0, aAppendV, isVec, bears, emptyArr, sliceAs, keeps, aBuildVec, aMakeVec, sliceCells, aBuildSlice, aIndexAddr, aLoad, runOf, ofCells, TY, LB, aLen, withInt, fillA, frzL, listWith, frz, frz0, deep, cellsA, setRun, okCell, List.replicate, notJunk, Nat.reduceMul, Nat.reduceLeDiff, Nat.reducePow, Nat.reduceBEq, boxIds, aResults, aResult, outAs, tupA, evNilCheck, aMove, MD, opds, evOp, asOper, one, two, evCallee, evAssign, aNew, evSlice, evField, evExtract, evFunc, pureOp, isCall, readOp, List.range', back, putBack, fuelR, closed, aStore, thawCells, place, pack, mapO, Nat.reduceEqDiff, Nat.reduceLT, maxNeed, i64_id, frzA, frzAs, memD, lentA, footC, ↓kc_s_AutomatonValid, ↓kc_s_l17Letter, ↓kc_s_SwapAlphabet, ↓kc_s_l1Letters, ↓kc_s_l17Swap, ↓kc_s_l3Go, ↓kl_s_AutomatonValid, ↓kl_s_l3Go, ↓kv_s_AutomatonValid_1, ↓kv_s_AutomatonValid_2, ↓kv_s_AutomatonValid_3, ↓kv_s_l3Go_1, ↓kv_s_l3Go_2, ↓kv_s_l3Go_3, ↓loop_s_SwapAutomaton_1, LA, hc, u_ints, c_int, u_intss, c_ints, ↓loop_a, ht, rows_snoc, List.length_append, eR_snoc, ints_length, ints_take, ↓ih]
      rw [e1]
      simp only [List.append_assoc, List.cons_append, List.nil_append, List.length_append, List.length_cons, List.length_nil, Nat.add_assoc, Nat.add_comm 1, Nat.zero_add]
    · have he0 : e = 1 := by omega
      subst he0
      rw [step_s_SwapAutomaton_0]
      simp only [S_s_SwapAutomaton_0, Try.f33, slimF, slimL, lpOf, codeOf, Option.getD_some, slim, loops, List.length_nil, Nat.add_zero, Nat.zero_add, slimO, slimG, List.map_cons, List.map_nil, List.getElem?_cons_zero, List.getElem?_cons_succ, Option.bind_some, Bool.false_eq_true, if_false, if_true, List.length_cons, List.replicate, List.cons_append, List.nil_append, List.append_nil, Nat.reduceAdd, Nat.reduceSub, List.getD_cons_zero, List.getD_cons_succ]
      simp -implicitDefEqProofs (maxSteps := 2000000) (disch := first | assumption | (refine Shut.mk ?_; kernel_rfl) | omega | (simp only [List.getElem?_cons_zero, List.getElem?_cons_succ]; done) | (simp only [List.length_append, List.length_cons, List.length_nil, List.length_set, List.length_replicate, List.length_map, List.length_take, List.length_drop] <;> omega)) only [↓WD, ↓kAsg, ↓kRet, ↓reduceIte, ↓clash_free, ↓WDD, ↓kOpD_callv, WK, thawAt, evPick, aPut, leavesBody, outA, outS, outSs, idsA, idsL, mapA, calmAs, calmA, calmSl, calmPt, genOf, calmH, calmFrom, calmO, mapAs, maskB, isUndef, tidy, Int.reduceLT, Int.reduceLE, Int.reduceEq, Int.reduceNe, Int.reduceNeg, Int.reduceAdd, Int.reduceSub, Int.reduceMul, Int.reduceToNat, Nat.reduceAdd, Nat.reduceSub, aBuiltin, aAppend, aAppend0, aAppendV, isVec, bears, emptyArr, sliceAs, keeps, aBuildVec, aMakeVec, sliceCells, aBuildSlice, aIndexAddr, aLoad, runOf, ofCells, TY, LB, aLen, withInt, fillA, frzL, listWith, frz, frz0, deep, cellsA, setRun, okCell, List.replicate, notJunk, Nat.reduceMul, Nat.reduceLeDiff, Nat.reducePow, Nat.reduceBEq, boxIds, aResults, aResult, outAs, tupA, evNilCheck, aMove, MD, opds, evOp, asOper, one, two, evCallee, evAssign, aNew, evSlice, evField, evExtract, evFunc, pureOp, isCall, readOp, List.range', back, putBack, fuelR, closed, aStore, thawCells, place, pack, mapO, Nat.reduceEqDiff, Nat.reduceLT, maxNeed, i64_id, frzA, frzAs, memD, lentA, footC, ↓kc_s_AutomatonValid, ↓kc_s_l17Letter, ↓kc_s_SwapAlphabet, ↓kc_s_l1Letters, ↓kc_s_l17Swap, ↓kc_s_l3Go, ↓kl_s_AutomatonValid, ↓kl_s_l3Go, ↓kv_s_AutomatonValid_1, ↓kv_s_AutomatonValid_2, ↓kv_s_AutomatonValid_3, ↓kv_s_l3Go_1, ↓kv_s_l3Go_2, ↓kv_s_l3Go_3, ↓loop_s_SwapAutomaton_1, LA, hc, u_ints, c_int, u_intss, c_ints, ↓loop_a, ht, rows_snoc, List.length_append, eR_snoc, ints_length, ints_take, ↓ih]
      rw [e1]
      simp only [List.append_assoc, List.cons_append, List.nil_append, List.length_append, List.length_cons, List.length_nil, Nat.add_assoc, Nat.add_comm 1, Nat.zero_add]

end Ev
end Go.Proofs.Ytidobgmklcbcpaa
