/-
  Words: what the functions on words give.
-/
import Derived.Test.YtojaohcpgelhmaaDoorSwapA
set_option linter.unusedSimpArgs false
set_option linter.unusedVariables false
namespace Go.Proofs.YtojaohcpgelhmaaDoor
namespace Ev

def ltr (b : UInt8) : Int := (b.toNat : Int) - 97
def byteI (l : Int) : UInt8 := UInt8.ofNat (97 + l).toNat

theorem i64_let {b : UInt8} : IntKind.i64.wrap ((b.toNat : Int) - 97) = ltr b := i64_id (by omega) (by have := toNat_lt b; omega)
theorem wrap_byte {l : Int} (h0 : 0 ≤ l) (h : l ≤ 5) : IntKind.u8.wrap (97 + l) = ((byteI l).toNat : Int) := by
  rw [u8_id (by omega) (by omega)]
  unfold byteI
  rw [UInt8.toNat_ofNat']
  omega

theorem ev_i_letterAt {L n : Nat} (hn : 1 ≤ n) (s : List UInt8) (i : Int) (h0 : 0 ≤ i) (h : i < s.length) : evCall env L n 42 [.d (.str s), .d (.int .i64 i)] [] = some (.d (.int .i64 (if isLet (ltr (s.getD i.toNat 0)) then ltr (s.getD i.toNat 0) else -1)), []) := by
  obtain ⟨n, rfl⟩ : ∃ m, n = m + 1 := ⟨n - 1, by omega⟩
  rw [fn_i_letterAt]
  simp only [S_i_letterAt, Tryd.f42, slimF, slimL, lpOf, codeOf, Option.getD_some, slim, loops, List.length_nil, Nat.add_zero, Nat.zero_add, slimO, slimG, List.map_cons, List.map_nil, List.getElem?_cons_zero, List.getElem?_cons_succ, Option.bind_some, Bool.false_eq_true, if_false, if_true, List.length_cons, List.replicate, List.cons_append, List.nil_append, List.append_nil, Nat.reduceAdd, Nat.reduceSub, List.getD_cons_zero, List.getD_cons_succ]
  simp -implicitDefEqProofs (maxSteps := 2000000) (disch := first | assumption | (refine Shut.mk ?_; kernel_rfl) | omega | (simp only [List.getElem?_cons_zero, List.getElem?_cons_succ]; done) | (simp only [List.length_append, List.length_cons, List.length_nil, List.length_set, List.length_replicate, List.length_map, List.length_take, List.length_drop] <;> omega) | (fail)) only [↓WD, ↓kAsg, ↓kRet, ↓reduceIte, ↓clash_free, ↓WDD, ↓kOpD_callv, WK, thawAt, evPick, aPut, leavesBody, outA, outS, outSs, idsA, idsL, mapA, calmAs, calmA, calmSl, calmPt, genOf, calmH, calmFrom, calmO, mapAs, maskB, isUndef, tidy, Int.reduceLT, Int.reduceLE, Int.reduceEq, Int.reduceNe, Int.reduceNeg, Int.reduceAdd, Int.reduceSub, Int.reduceMul, Int.reduceToNat, Nat.reduceAdd, Nat.reduceSub, aBuiltin, aAppend, aAppend0, aAppendV, isVec, bears, emptyArr, sliceAs, keeps, aBuildVec, aMakeVec, sliceCells, aBuildSlice, aIndexAddr, aLoad, runOf, ofCells, TY, LB, aLen, withInt, fillA, frzL, listWith, frz, frz0, deep, cellsA, setRun, okCell, List.replicate, notJunk, Nat.reduceMul, Nat.reduceLeDiff, Nat.reducePow, Nat.reduceBEq, boxIds, aResults, aResult, outAs, tupA, evNilCheck, aMove, MD, opds, evOp, asOper, one, two, evCallee, evAssign, aNew, evSlice, evField, evExtract, evFunc, pureOp, isCall, readOp, List.range', back, putBack, fuelR, closed, aStore, thawCells, place, pack, mapO, Nat.reduceEqDiff, Nat.reduceLT, maxNeed, i64_id, frzA, frzAs, memD, lentA, footC, aIndex_str, ↓conv_uint8_int, i64_byte, i64_let]
  generalize ltr (s.getD i.toNat 0) = v
  unfold isLet
  by_cases h1 : v < 0
  · have h2 : ¬ 0 ≤ v := by omega
    simp [h1, h2]
  · have h2 : 0 ≤ v := by omega
    by_cases h3 : 6 ≤ v
    · have h4 : ¬ v < 6 := by omega
      simp [h1, h2, h3, h4]
    · have h4 : v < 6 := by omega
      simp [h1, h2, h3, h4]
theorem kc_i_letterAt {R : Type} {L n : Nat} {hq : H} {k : A → H → Option R} (hn : 1 ≤ n) (s : List UInt8) (i : Int) (h0 : 0 ≤ i) (h : i < s.length) : kCall env (evCall env L n) hq 42 [.d (.str s), .d (.int .i64 i)] k = k (.d (.int .i64 (if isLet (ltr (s.getD i.toNat 0)) then ltr (s.getD i.toNat 0) else -1))) hq :=
  kCall_still rfl (ev_i_letterAt hn s i h0 h) rfl (.inl rfl)

theorem ev_i_letterByte {L n : Nat} (hn : 1 ≤ n) (l : Int) (h0 : 0 ≤ l) (h : l ≤ 5) : evCall env L n 37 [.d (.int .i64 l)] [] = some (.d (.int .u8 (byteI l).toNat), []) := by
  have e : IntKind.u8.wrap (97 + l) = ((byteI l).toNat : Int) := wrap_byte h0 h
  obtain ⟨n, rfl⟩ : ∃ m, n = m + 1 := ⟨n - 1, by omega⟩
  rw [fn_i_letterByte]
  simp only [S_i_letterByte, Tryd.f37, slimF, slimL, lpOf, codeOf, Option.getD_some, slim, loops, List.length_nil, Nat.add_zero, Nat.zero_add, slimO, slimG, List.map_cons, List.map_nil, List.getElem?_cons_zero, List.getElem?_cons_succ, Option.bind_some, Bool.false_eq_true, if_false, if_true, List.length_cons, List.replicate, List.cons_append, List.nil_append, List.append_nil, Nat.reduceAdd, Nat.reduceSub, List.getD_cons_zero, List.getD_cons_succ]
  simp -implicitDefEqProofs (maxSteps := 2000000) (disch := first | assumption | (refine Shut.mk ?_; kernel_rfl) | omega | (simp only [List.getElem?_cons_zero, List.getElem?_cons_succ]; done) | (simp only [List.length_append, List.length_cons, List.length_nil, List.length_set, List.length_replicate, List.length_map, List.length_take, List.length_drop] <;> omega) | (fail)) only [↓WD, ↓kAsg, ↓kRet, ↓reduceIte, ↓clash_free, ↓WDD, ↓kOpD_callv, WK, thawAt, evPick, aPut, leavesBody, outA, outS, outSs, idsA, idsL, mapA, calmAs, calmA, calmSl, calmPt, genOf, calmH, calmFrom, calmO, mapAs, maskB, isUndef, tidy, Int.reduceLT, Int.reduceLE, Int.reduceEq, Int.reduceNe, Int.reduceNeg, Int.reduceAdd, Int.reduceSub, Int.reduceMul, Int.reduceToNat, Nat.reduceAdd, Nat.reduceSub, aBuiltin, aAppend, aAppend0, aAppendV, isVec, bears, emptyArr, sliceAs, keeps, aBuildVec, aMakeVec, sliceCells, aBuildSlice, aIndexAddr, aLoad, runOf, ofCells, TY, LB, aLen, withInt, fillA, frzL, listWith, frz, frz0, deep, cellsA, setRun, okCell, List.replicate, notJunk, Nat.reduceMul, Nat.reduceLeDiff, Nat.reducePow, Nat.reduceBEq, boxIds, aResults, aResult, outAs, tupA, evNilCheck, aMove, MD, opds, evOp, asOper, one, two, evCallee, evAssign, aNew, evSlice, evField, evExtract, evFunc, pureOp, isCall, readOp, List.range', back, putBack, fuelR, closed, aStore, thawCells, place, pack, mapO, Nat.reduceEqDiff, Nat.reduceLT, maxNeed, i64_id, frzA, frzAs, memD, lentA, footC, ↓conv_int_uint8, e]
theorem kc_i_letterByte {R : Type} {L n : Nat} {hq : H} {k : A → H → Option R} (hn : 1 ≤ n) (l : Int) (h0 : 0 ≤ l) (h : l ≤ 5) : kCall env (evCall env L n) hq 37 [.d (.int .i64 l)] k = k (.d (.int .u8 (byteI l).toNat)) hq :=
  kCall_still rfl (ev_i_letterByte hn l h0 h) rfl (.inl rfl)

def okB (b : UInt8) : Bool := isLet (ltr b)
def wordOK (s : List UInt8) : Bool := decide (s.length ≤ 50000) && s.all okB
def swapB (x y : Int) (b : UInt8) : UInt8 := byteI (swapI (ltr b) x y)
def swapWord (s : List UInt8) (x y : Int) : List UInt8 := if wordOK s && isLet x && isLet y then s.map (swapB x y) else []

/-- How far a loop goes that stops at the first element that is not right. -/
def upTo {α : Type} (p : α → Bool) (l : List α) (i : Nat) : Int := (i : Int) + ((l.drop i).takeWhile p).length

theorem upTo_end {α : Type} {p : α → Bool} {l : List α} : upTo p l l.length = l.length := by
  unfold upTo; simp

theorem upTo_stop {α : Type} {p : α → Bool} {l : List α} {i : Nat} {d : α} (h : i < l.length) (hp : p (l.getD i d) = false) : upTo p l i = i := by
  unfold upTo
  rw [List.getD_eq_getElem?_getD, List.getElem?_eq_getElem h] at hp
  simp only [Option.getD_some] at hp
  rw [List.drop_eq_getElem_cons h, List.takeWhile_cons, hp]
  simp

theorem upTo_go {α : Type} {p : α → Bool} {l : List α} {i : Nat} {d : α} (h : i < l.length) (hp : p (l.getD i d) = true) : upTo p l i = upTo p l (i + 1) := by
  unfold upTo
  rw [List.getD_eq_getElem?_getD, List.getElem?_eq_getElem h] at hp
  simp only [Option.getD_some] at hp
  rw [List.drop_eq_getElem_cons h, List.takeWhile_cons, hp]
  simp; omega

theorem all_stop {α : Type} {p : α → Bool} {l : List α} {i : Nat} {d : α} (h : i < l.length) (hp : p (l.getD i d) = false) : (l.drop i).all p = false := by
  rw [List.getD_eq_getElem?_getD, List.getElem?_eq_getElem h] at hp
  simp only [Option.getD_some] at hp
  rw [List.drop_eq_getElem_cons h, List.all_cons, hp]
  rfl

theorem all_go {α : Type} {p : α → Bool} {l : List α} {i : Nat} {d : α} (h : i < l.length) (hp : p (l.getD i d) = true) : (l.drop i).all p = (l.drop (i + 1)).all p := by
  rw [List.getD_eq_getElem?_getD, List.getElem?_eq_getElem h] at hp
  simp only [Option.getD_some] at hp
  rw [List.drop_eq_getElem_cons h, List.all_cons, hp]
  rfl

theorem drop_zero_all {α : Type} {p : α → Bool} {l : List α} : (l.drop (0 : Int).toNat).all p = l.all p := by simp

/-- A letter of an alphabet. -/
def inB (a : Int) (b : UInt8) : Bool := okB b && bitAt a (ltr b)
def wordIn (a : Int) (s : List UInt8) : Bool := isAlpha a && decide (s.length ≤ 50000) && s.all (inB a)

theorem has_at {a : Int} {b : UInt8} : (decide (0 ≤ (if isLet (ltr b) then ltr b else -1)) && bitAt a (if isLet (ltr b) then ltr b else -1)) = inB a b := by
  unfold inB okB
  cases h : isLet (ltr b) with
  | true =>
    have := isLet_iff.1 h
    have h2 : 0 ≤ ltr b := by omega
    simp [h2]
  | false => simp

theorem loop_i_WordWithin {R : Type} {L n : Nat} (hn : 1 ≤ n) {s : List UInt8} {a : Int} (hs : s.length < 4294967296) {k : Exit → List A → H → Option R} : ∀ (i : Int) (m : Nat) (h0 : 0 ≤ i) (hi : i ≤ s.length) (hm : (s.length : Int) - i < m),
    kLoop env (evCall env L n) L 0 [] (true :: true :: false :: false :: true :: false :: false :: false :: false :: false :: false :: false :: false :: false :: false :: true :: true :: false :: false :: false :: false :: false :: false :: false :: false :: false :: []) (lp_i_WordWithin 0) (false :: false :: true :: true :: false :: true :: true :: true :: true :: true :: true :: true :: true :: true :: true :: false :: false :: true :: true :: true :: true :: true :: true :: true :: true :: true :: []) m (.d (.str s) :: .d (.int .i64 a) :: .junk :: .junk :: .d (.bool false) :: .junk :: .junk :: .junk :: .junk :: .junk :: .junk :: .junk :: .junk :: .junk :: .junk :: .d (.int .i64 (s.length)) :: .d (.int .i64 i) :: .junk :: .junk :: .junk :: .junk :: .junk :: .junk :: .junk :: .junk :: .junk :: []) [] k
    = if (s.drop i.toNat).all (inB a) then k (.exit 0) (.d (.str s) :: .d (.int .i64 a) :: .junk :: .junk :: .d (.bool false) :: .junk :: .junk :: .junk :: .junk :: .junk :: .junk :: .junk :: .junk :: .junk :: .junk :: .d (.int .i64 (s.length)) :: .d (.int .i64 ((upTo (inB a) s i.toNat))) :: .junk :: .junk :: .junk :: .junk :: .junk :: .junk :: .junk :: .junk :: .junk :: []) [] else k .ret (.d (.str s) :: .d (.int .i64 a) :: .junk :: .junk :: .d (.bool false) :: .junk :: .junk :: .junk :: .junk :: .junk :: .junk :: .junk :: .junk :: .junk :: .junk :: .d (.int .i64 (s.length)) :: .d (.int .i64 ((upTo (inB a) s i.toNat))) :: .junk :: .junk :: .junk :: .junk :: .junk :: .junk :: .junk :: .junk :: .junk :: []) [] := by
  intro i m h0 hi hm
  obtain ⟨j, hj⟩ : ∃ j : Nat, (j : Int) = (s.length : Int) - i := ⟨((s.length : Int) - i).toNat, by omega⟩
  induction j generalizing i m with
  | zero =>
    obtain ⟨m, rfl⟩ : ∃ q, m = q + 1 := ⟨m - 1, by omega⟩
    obtain rfl : i = s.length := by omega
    rw [step_i_WordWithin_0]
    simp only [S_i_WordWithin_0, Tryd.f39, slimF, slimL, lpOf, codeOf, Option.getD_some, slim, loops, List.length_nil, Nat.add_zero, Nat.zero_add, slimO, slimG, List.map_cons, List.map_nil, List.getElem?_cons_zero, List.getElem?_cons_succ, Option.bind_some, Bool.false_eq_true, if_false, if_true, List.length_cons, List.replicate, List.cons_append, List.nil_append, List.append_nil, Nat.reduceAdd, Nat.reduceSub, List.getD_cons_zero, List.getD_cons_succ]
    simp -implicitDefEqProofs (maxSteps := 2000000) (disch := first | assumption | (refine Shut.mk ?_; kernel_rfl) | omega | (simp only [List.getElem?_cons_zero, List.getElem?_cons_succ]; done) | (simp only [List.length_append, List.length_cons, List.length_nil, List.length_set, List.length_replicate, List.length_map, List.length_take, List.length_drop] <;> omega) | (fail)) only [↓WD, ↓kAsg, ↓kRet, ↓reduceIte, ↓clash_free, ↓WDD, ↓kOpD_callv, WK, thawAt, evPick, aPut, leavesBody, outA, outS, outSs, idsA, idsL, mapA, calmAs, calmA, calmSl, calmPt, genOf, calmH, calmFrom, calmO, mapAs, maskB, isUndef, tidy, Int.reduceLT, Int.reduceLE, Int.reduceEq, Int.reduceNe, Int.reduceNeg, Int.reduceAdd, Int.reduceSub, Int.reduceMul, Int.reduceToNat, Nat.reduceAdd, Nat.reduceSub, aBuiltin, aAppend, aAppend0, aAppendV, isVec, bears, emptyArr, sliceAs, keeps, aBuildVec, aMakeVec, sliceCells, aBuildSlice, aIndexAddr, aLoad, runOf, ofCells, TY, LB, aLen, withInt, fillA, frzL, listWith, frz, frz0, deep, cellsA, setRun, okCell, List.replicate, notJunk, Nat.reduceMul, Nat.reduceLeDiff, Nat.reducePow, Nat.reduceBEq, boxIds, aResults, aResult, outAs, tupA, evNilCheck, aMove, MD, opds, evOp, asOper, one, two, evCallee, evAssign, aNew, evSlice, evField, evExtract, evFunc, pureOp, isCall, readOp, List.range', back, putBack, fuelR, closed, aStore, thawCells, place, pack, mapO, Nat.reduceEqDiff, Nat.reduceLT, maxNeed, i64_id, frzA, frzAs, memD, lentA, footC, ↓kc_i_isAlphabet, ↓kc_i_letterAt, ↓kc_i_has, u_string, Int.lt_irrefl]
    simp only [Int.toNat_natCast, List.drop_length, List.all_nil, if_true, upTo_end]
  | succ j ih =>
    obtain ⟨m, rfl⟩ : ∃ q, m = q + 1 := ⟨m - 1, by omega⟩
    have hc : i < s.length := by omega
    have hk : i.toNat < s.length := by omega
    have e1 : (i + 1).toNat = i.toNat + 1 := by omega
    cases hb : inB a (s.getD i.toNat 0) with
    | true =>
      rw [step_i_WordWithin_0]
      simp only [S_i_WordWithin_0, Tryd.f39, slimF, slimL, lpOf, codeOf, Option.getD_some, slim, loops, List.length_nil, Nat.add_zero, Nat.zero_add, slimO, slimG, List.map_cons, List.map_nil, List.getElem?_cons_zero, List.getElem?_cons_succ, Option.bind_some, Bool.false_eq_true, if_false, if_true, List.length_cons, List.replicate, List.cons_append, List.nil_append, List.append_nil, Nat.reduceAdd, Nat.reduceSub, List.getD_cons_zero, List.getD_cons_succ]
      simp -implicitDefEqProofs (maxSteps := 2000000) (disch := first | assumption | (refine Shut.mk ?_; kernel_rfl) | omega | (simp only [List.getElem?_cons_zero, List.getElem?_cons_succ]; done) | (simp only [List.length_append, List.length_cons, List.length_nil, List.length_set, List.length_replicate, List.length_map, List.length_take, List.length_drop] <;> omega) | (fail)) only [↓WD, ↓kAsg, ↓kRet, ↓reduceIte, ↓clash_free, ↓WDD, ↓kOpD_callv, WK, thawAt, evPick, aPut, leavesBody, outA, outS, outSs, idsA, idsL, mapA, calmAs, calmA, calmSl, calmPt, genOf, calmH, calmFrom, calmO, mapAs, maskB, isUndef, tidy, Int.reduceLT, Int.reduceLE, Int.reduceEq, Int.reduceNe, Int.reduceNeg, Int.reduceAdd, Int.reduceSub, Int.reduceMul, Int.reduceToNat, Nat.reduceAdd, Nat.reduceSub, aBuiltin, aAppend, aAppend0, aAppendV, isVec, bears, emptyArr, sliceAs, keeps, aBuildVec, aMakeVec, sliceCells, aBuildSlice, aIndexAddr, aLoad, runOf, ofCells, TY, LB, aLen, withInt, fillA, frzL, listWith, frz, frz0, deep, cellsA, setRun, okCell, List.replicate, notJunk, Nat.reduceMul, Nat.reduceLeDiff, Nat.reducePow, Nat.reduceBEq, boxIds, aResults, aResult, outAs, tupA, evNilCheck, aMove, MD, opds, evOp, asOper, one, two, evCallee, evAssign, aNew, evSlice, evField, evExtract, evFunc, pureOp, isCall, readOp, List.range', back, putBack, fuelR, closed, aStore, thawCells, place, pack, mapO, Nat.reduceEqDiff, Nat.reduceLT, maxNeed, i64_id, frzA, frzAs, memD, lentA, footC, ↓kc_i_isAlphabet, u_string, hc, ↓kc_i_letterAt, ↓kc_i_has, has_at, hb, ↓ih]
      rw [e1, all_go hk hb, upTo_go hk hb]
    | false =>
      rw [all_stop hk hb, upTo_stop hk hb]
      rw [step_i_WordWithin_0]
      simp only [S_i_WordWithin_0, Tryd.f39, slimF, slimL, lpOf, codeOf, Option.getD_some, slim, loops, List.length_nil, Nat.add_zero, Nat.zero_add, slimO, slimG, List.map_cons, List.map_nil, List.getElem?_cons_zero, List.getElem?_cons_succ, Option.bind_some, Bool.false_eq_true, if_false, if_true, List.length_cons, List.replicate, List.cons_append, List.nil_append, List.append_nil, Nat.reduceAdd, Nat.reduceSub, List.getD_cons_zero, List.getD_cons_succ]
      simp -implicitDefEqProofs (maxSteps := 2000000) (disch := first | assumption | (refine Shut.mk ?_; kernel_rfl) | omega | (simp only [List.getElem?_cons_zero, List.getElem?_cons_succ]; done) | (simp only [List.length_append, List.length_cons, List.length_nil, List.length_set, List.length_replicate, List.length_map, List.length_take, List.length_drop] <;> omega) | (fail)) only [↓WD, ↓kAsg, ↓kRet, ↓reduceIte, ↓clash_free, ↓WDD, ↓kOpD_callv, WK, thawAt, evPick, aPut, leavesBody, outA, outS, outSs, idsA, idsL, mapA, calmAs, calmA, calmSl, calmPt, genOf, calmH, calmFrom, calmO, mapAs, maskB, isUndef, tidy, Int.reduceLT, Int.reduceLE, Int.reduceEq, Int.reduceNe, Int.reduceNeg, Int.reduceAdd, Int.reduceSub, Int.reduceMul, Int.reduceToNat, Nat.reduceAdd, Nat.reduceSub, aBuiltin, aAppend, aAppend0, aAppendV, isVec, bears, emptyArr, sliceAs, keeps, aBuildVec, aMakeVec, sliceCells, aBuildSlice, aIndexAddr, aLoad, runOf, ofCells, TY, LB, aLen, withInt, fillA, frzL, listWith, frz, frz0, deep, cellsA, setRun, okCell, List.replicate, notJunk, Nat.reduceMul, Nat.reduceLeDiff, Nat.reducePow, Nat.reduceBEq, boxIds, aResults, aResult, outAs, tupA, evNilCheck, aMove, MD, opds, evOp, asOper, one, two, evCallee, evAssign, aNew, evSlice, evField, evExtract, evFunc, pureOp, isCall, readOp, List.range', back, putBack, fuelR, closed, aStore, thawCells, place, pack, mapO, Nat.reduceEqDiff, Nat.reduceLT, maxNeed, i64_id, frzA, frzAs, memD, lentA, footC, ↓kc_i_isAlphabet, u_string, hc, ↓kc_i_letterAt, ↓kc_i_has, has_at, hb]
      rw [Int.toNat_of_nonneg h0]

theorem ev_i_WordWithin {L n : Nat} (hn : 2 ≤ n) (s : List UInt8) (a : Int) (hL : 2 ^ 60 ≤ L) : evCall env L n 39 [.d (.str s), .d (.int .i64 a)] [] = some (.d (.bool (wordIn a s)), []) := by
  unfold wordIn
  cases hal : isAlpha a with
  | false =>
    obtain ⟨n, rfl⟩ : ∃ m, n = m + 1 := ⟨n - 1, by omega⟩
    rw [fn_i_WordWithin]
    simp only [S_i_WordWithin, Tryd.f39, slimF, slimL, lpOf, codeOf, Option.getD_some, slim, loops, List.length_nil, Nat.add_zero, Nat.zero_add, slimO, slimG, List.map_cons, List.map_nil, List.getElem?_cons_zero, List.getElem?_cons_succ, Option.bind_some, Bool.false_eq_true, if_false, if_true, List.length_cons, List.replicate, List.cons_append, List.nil_append, List.append_nil, Nat.reduceAdd, Nat.reduceSub, List.getD_cons_zero, List.getD_cons_succ]
    simp -implicitDefEqProofs (maxSteps := 2000000) (disch := first | assumption | (refine Shut.mk ?_; kernel_rfl) | omega | (simp only [List.getElem?_cons_zero, List.getElem?_cons_succ]; done) | (simp only [List.length_append, List.length_cons, List.length_nil, List.length_set, List.length_replicate, List.length_map, List.length_take, List.length_drop] <;> omega) | (fail)) only [↓WD, ↓kAsg, ↓kRet, ↓reduceIte, ↓clash_free, ↓WDD, ↓kOpD_callv, WK, thawAt, evPick, aPut, leavesBody, outA, outS, outSs, idsA, idsL, mapA, calmAs, calmA, calmSl, calmPt, genOf, calmH, calmFrom, calmO, mapAs, maskB, isUndef, tidy, Int.reduceLT, Int.reduceLE, Int.reduceEq, Int.reduceNe, Int.reduceNeg, Int.reduceAdd, Int.reduceSub, Int.reduceMul, Int.reduceToNat, Nat.reduceAdd, Nat.reduceSub, aBuiltin, aAppend, aAppend0, aAppendV, isVec, bears, emptyArr, sliceAs, keeps, aBuildVec, aMakeVec, sliceCells, aBuildSlice, aIndexAddr, aLoad, runOf, ofCells, TY, LB, aLen, withInt, fillA, frzL, listWith, frz, frz0, deep, cellsA, setRun, okCell, List.replicate, notJunk, Nat.reduceMul, Nat.reduceLeDiff, Nat.reducePow, Nat.reduceBEq, boxIds, aResults, aResult, outAs, tupA, evNilCheck, aMove, MD, opds, evOp, asOper, one, two, evCallee, evAssign, aNew, evSlice, evField, evExtract, evFunc, pureOp, isCall, readOp, List.range', back, putBack, fuelR, closed, aStore, thawCells, place, pack, mapO, Nat.reduceEqDiff, Nat.reduceLT, maxNeed, i64_id, frzA, frzAs, memD, lentA, footC, ↓kc_i_letterAt, ↓kc_i_has, ↓loop_i_WordWithin, u_string, ↓kc_i_isAlphabet, hal]
    all_goals rfl
  | true =>
    by_cases hs : s.length ≤ 50000
    · have hs' : ¬ (50000 : Int) < s.length := by omega
      cases ha : s.all (inB a) with
      | true =>
        obtain ⟨n, rfl⟩ : ∃ m, n = m + 1 := ⟨n - 1, by omega⟩
        rw [fn_i_WordWithin]
        simp only [S_i_WordWithin, Tryd.f39, slimF, slimL, lpOf, codeOf, Option.getD_some, slim, loops, List.length_nil, Nat.add_zero, Nat.zero_add, slimO, slimG, List.map_cons, List.map_nil, List.getElem?_cons_zero, List.getElem?_cons_succ, Option.bind_some, Bool.false_eq_true, if_false, if_true, List.length_cons, List.replicate, List.cons_append, List.nil_append, List.append_nil, Nat.reduceAdd, Nat.reduceSub, List.getD_cons_zero, List.getD_cons_succ]
        simp -implicitDefEqProofs (maxSteps := 2000000) (disch := first | assumption | (refine Shut.mk ?_; kernel_rfl) | omega | (simp only [List.getElem?_cons_zero, List.getElem?_cons_succ]; done) | (simp only [List.length_append, List.length_cons, List.length_nil, List.length_set, List.length_replicate, List.length_map, List.length_take, List.length_drop] <;> omega) | (fail)) only [↓WD, ↓kAsg, ↓kRet, ↓reduceIte, ↓clash_free, ↓WDD, ↓kOpD_callv, WK, thawAt, evPick, aPut, leavesBody, outA, outS, outSs, idsA, idsL, mapA, calmAs, calmA, calmSl, calmPt, genOf, calmH, calmFrom, calmO, mapAs, maskB, isUndef, tidy, Int.reduceLT, Int.reduceLE, Int.reduceEq, Int.reduceNe, Int.reduceNeg, Int.reduceAdd, Int.reduceSub, Int.reduceMul, Int.reduceToNat, Nat.reduceAdd, Nat.reduceSub, aBuiltin, aAppend, aAppend0, aAppendV, isVec, bears, emptyArr, sliceAs, keeps, aBuildVec, aMakeVec, sliceCells, aBuildSlice, aIndexAddr, aLoad, runOf, ofCells, TY, LB, aLen, withInt, fillA, frzL, listWith, frz, frz0, deep, cellsA, setRun, okCell, List.replicate, notJunk, Nat.reduceMul, Nat.reduceLeDiff, Nat.reducePow, Nat.reduceBEq, boxIds, aResults, aResult, outAs, tupA, evNilCheck, aMove, MD, opds, evOp, asOper, one, two, evCallee, evAssign, aNew, evSlice, evField, evExtract, evFunc, pureOp, isCall, readOp, List.range', back, putBack, fuelR, closed, aStore, thawCells, place, pack, mapO, Nat.reduceEqDiff, Nat.reduceLT, maxNeed, i64_id, frzA, frzAs, memD, lentA, footC, ↓kc_i_letterAt, ↓kc_i_has, u_string, ↓kc_i_isAlphabet, hal, hs', ↓loop_i_WordWithin, drop_zero_all, ha]
        simp [hs]
      | false =>
        obtain ⟨n, rfl⟩ : ∃ m, n = m + 1 := ⟨n - 1, by omega⟩
        rw [fn_i_WordWithin]
        simp only [S_i_WordWithin, Tryd.f39, slimF, slimL, lpOf, codeOf, Option.getD_some, slim, loops, List.length_nil, Nat.add_zero, Nat.zero_add, slimO, slimG, List.map_cons, List.map_nil, List.getElem?_cons_zero, List.getElem?_cons_succ, Option.bind_some, Bool.false_eq_true, if_false, if_true, List.length_cons, List.replicate, List.cons_append, List.nil_append, List.append_nil, Nat.reduceAdd, Nat.reduceSub, List.getD_cons_zero, List.getD_cons_succ]
        simp -implicitDefEqProofs (maxSteps := 2000000) (disch := first | assumption | (refine Shut.mk ?_; kernel_rfl) | omega | (simp only [List.getElem?_cons_zero, List.getElem?_cons_succ]; done) | (simp only [List.length_append, List.length_cons, List.length_nil, List.length_set, List.length_replicate, List.length_map, List.length_take, List.length_drop] <;> omega) | (fail)) only [↓WD, ↓kAsg, ↓kRet, ↓reduceIte, ↓clash_free, ↓WDD, ↓kOpD_callv, WK, thawAt, evPick, aPut, leavesBody, outA, outS, outSs, idsA, idsL, mapA, calmAs, calmA, calmSl, calmPt, genOf, calmH, calmFrom, calmO, mapAs, maskB, isUndef, tidy, Int.reduceLT, Int.reduceLE, Int.reduceEq, Int.reduceNe, Int.reduceNeg, Int.reduceAdd, Int.reduceSub, Int.reduceMul, Int.reduceToNat, Nat.reduceAdd, Nat.reduceSub, aBuiltin, aAppend, aAppend0, aAppendV, isVec, bears, emptyArr, sliceAs, keeps, aBuildVec, aMakeVec, sliceCells, aBuildSlice, aIndexAddr, aLoad, runOf, ofCells, TY, LB, aLen, withInt, fillA, frzL, listWith, frz, frz0, deep, cellsA, setRun, okCell, List.replicate, notJunk, Nat.reduceMul, Nat.reduceLeDiff, Nat.reducePow, Nat.reduceBEq, boxIds, aResults, aResult, outAs, tupA, evNilCheck, aMove, MD, opds, evOp, asOper, one, two, evCallee, evAssign, aNew, evSlice, evField, evExtract, evFunc, pureOp, isCall, readOp, List.range', back, putBack, fuelR, closed, aStore, thawCells, place, pack, mapO, Nat.reduceEqDiff, Nat.reduceLT, maxNeed, i64_id, frzA, frzAs, memD, lentA, footC, ↓kc_i_letterAt, ↓kc_i_has, u_string, ↓kc_i_isAlphabet, hal, hs', ↓loop_i_WordWithin, drop_zero_all, ha]
        all_goals simp
    · have hs' : (50000 : Int) < s.length := by omega
      obtain ⟨n, rfl⟩ : ∃ m, n = m + 1 := ⟨n - 1, by omega⟩
      rw [fn_i_WordWithin]
      simp only [S_i_WordWithin, Tryd.f39, slimF, slimL, lpOf, codeOf, Option.getD_some, slim, loops, List.length_nil, Nat.add_zero, Nat.zero_add, slimO, slimG, List.map_cons, List.map_nil, List.getElem?_cons_zero, List.getElem?_cons_succ, Option.bind_some, Bool.false_eq_true, if_false, if_true, List.length_cons, List.replicate, List.cons_append, List.nil_append, List.append_nil, Nat.reduceAdd, Nat.reduceSub, List.getD_cons_zero, List.getD_cons_succ]
      simp -implicitDefEqProofs (maxSteps := 2000000) (disch := first | assumption | (refine Shut.mk ?_; kernel_rfl) | omega | (simp only [List.getElem?_cons_zero, List.getElem?_cons_succ]; done) | (simp only [List.length_append, List.length_cons, List.length_nil, List.length_set, List.length_replicate, List.length_map, List.length_take, List.length_drop] <;> omega) | (fail)) only [↓WD, ↓kAsg, ↓kRet, ↓reduceIte, ↓clash_free, ↓WDD, ↓kOpD_callv, WK, thawAt, evPick, aPut, leavesBody, outA, outS, outSs, idsA, idsL, mapA, calmAs, calmA, calmSl, calmPt, genOf, calmH, calmFrom, calmO, mapAs, maskB, isUndef, tidy, Int.reduceLT, Int.reduceLE, Int.reduceEq, Int.reduceNe, Int.reduceNeg, Int.reduceAdd, Int.reduceSub, Int.reduceMul, Int.reduceToNat, Nat.reduceAdd, Nat.reduceSub, aBuiltin, aAppend, aAppend0, aAppendV, isVec, bears, emptyArr, sliceAs, keeps, aBuildVec, aMakeVec, sliceCells, aBuildSlice, aIndexAddr, aLoad, runOf, ofCells, TY, LB, aLen, withInt, fillA, frzL, listWith, frz, frz0, deep, cellsA, setRun, okCell, List.replicate, notJunk, Nat.reduceMul, Nat.reduceLeDiff, Nat.reducePow, Nat.reduceBEq, boxIds, aResults, aResult, outAs, tupA, evNilCheck, aMove, MD, opds, evOp, asOper, one, two, evCallee, evAssign, aNew, evSlice, evField, evExtract, evFunc, pureOp, isCall, readOp, List.range', back, putBack, fuelR, closed, aStore, thawCells, place, pack, mapO, Nat.reduceEqDiff, Nat.reduceLT, maxNeed, i64_id, frzA, frzAs, memD, lentA, footC, ↓kc_i_letterAt, ↓kc_i_has, ↓loop_i_WordWithin, u_string, ↓kc_i_isAlphabet, hal, hs']
      simp [hs]
theorem kc_i_WordWithin {R : Type} {L n : Nat} {hq : H} {k : A → H → Option R} (hn : 2 ≤ n) (s : List UInt8) (a : Int) (hL : 2 ^ 60 ≤ L) : kCall env (evCall env L n) hq 39 [.d (.str s), .d (.int .i64 a)] k = k (.d (.bool (wordIn a s))) hq :=
  kCall_still rfl (ev_i_WordWithin hn s a hL) rfl (.inl rfl)

theorem ev_i_WordValid {L n : Nat} (hn : 3 ≤ n) (s : List UInt8) (hL : 2 ^ 60 ≤ L) : evCall env L n 43 [.d (.str s)] [] = some (.d (.bool (wordOK s)), []) := by
  have e : wordIn 63 s = wordOK s := by
    unfold wordIn wordOK
    have : inB 63 = okB := by
      funext b
      unfold inB okB
      cases h : isLet (ltr b) with
      | false => rfl
      | true =>
        have hb := isLet_iff.1 h
        have : ltr b = 0 ∨ ltr b = 1 ∨ ltr b = 2 ∨ ltr b = 3 ∨ ltr b = 4 ∨ ltr b = 5 := by omega
        rcases this with h | h | h | h | h | h <;> rw [h] <;> decide
    rw [this]
    rfl
  obtain ⟨n, rfl⟩ : ∃ m, n = m + 1 := ⟨n - 1, by omega⟩
  rw [fn_i_WordValid]
  simp only [S_i_WordValid, Tryd.f43, slimF, slimL, lpOf, codeOf, Option.getD_some, slim, loops, List.length_nil, Nat.add_zero, Nat.zero_add, slimO, slimG, List.map_cons, List.map_nil, List.getElem?_cons_zero, List.getElem?_cons_succ, Option.bind_some, Bool.false_eq_true, if_false, if_true, List.length_cons, List.replicate, List.cons_append, List.nil_append, List.append_nil, Nat.reduceAdd, Nat.reduceSub, List.getD_cons_zero, List.getD_cons_succ]
  simp -implicitDefEqProofs (maxSteps := 2000000) (disch := first | assumption | (refine Shut.mk ?_; kernel_rfl) | omega | (simp only [List.getElem?_cons_zero, List.getElem?_cons_succ]; done) | (simp only [List.length_append, List.length_cons, List.length_nil, List.length_set, List.length_replicate, List.length_map, List.length_take, List.length_drop] <;> omega) | (fail)) only [↓WD, ↓kAsg, ↓kRet, ↓reduceIte, ↓clash_free, ↓WDD, ↓kOpD_callv, WK, thawAt, evPick, aPut, leavesBody, outA, outS, outSs, idsA, idsL, mapA, calmAs, calmA, calmSl, calmPt, genOf, calmH, calmFrom, calmO, mapAs, maskB, isUndef, tidy, Int.reduceLT, Int.reduceLE, Int.reduceEq, Int.reduceNe, Int.reduceNeg, Int.reduceAdd, Int.reduceSub, Int.reduceMul, Int.reduceToNat, Nat.reduceAdd, Nat.reduceSub, aBuiltin, aAppend, aAppend0, aAppendV, isVec, bears, emptyArr, sliceAs, keeps, aBuildVec, aMakeVec, sliceCells, aBuildSlice, aIndexAddr, aLoad, runOf, ofCells, TY, LB, aLen, withInt, fillA, frzL, listWith, frz, frz0, deep, cellsA, setRun, okCell, List.replicate, notJunk, Nat.reduceMul, Nat.reduceLeDiff, Nat.reducePow, Nat.reduceBEq, boxIds, aResults, aResult, outAs, tupA, evNilCheck, aMove, MD, opds, evOp, asOper, one, two, evCallee, evAssign, aNew, evSlice, evField, evExtract, evFunc, pureOp, isCall, readOp, List.range', back, putBack, fuelR, closed, aStore, thawCells, place, pack, mapO, Nat.reduceEqDiff, Nat.reduceLT, maxNeed, i64_id, frzA, frzAs, memD, lentA, footC, ↓kc_i_WordWithin, e]
theorem kc_i_WordValid {R : Type} {L n : Nat} {hq : H} {k : A → H → Option R} (hn : 3 ≤ n) (s : List UInt8) (hL : 2 ^ 60 ≤ L) : kCall env (evCall env L n) hq 43 [.d (.str s)] k = k (.d (.bool (wordOK s))) hq :=
  kCall_still rfl (ev_i_WordValid hn s hL) rfl (.inl rfl)

/-! ### SwapWord -/

theorem map_go {α β : Type} {f : α → β} {l : List α} {i : Nat} {d : α} (h : i < l.length) : (l.drop i).map f = f (l.getD i d) :: (l.drop (i + 1)).map f := by
  rw [List.drop_eq_getElem_cons h, List.getD_eq_getElem?_getD, List.getElem?_eq_getElem h]
  rfl

theorem all_at {α : Type} {p : α → Bool} {l : List α} {d : α} (ha : l.all p = true) {i : Nat} (h : i < l.length) : p (l.getD i d) = true := by
  rw [List.getD_eq_getElem?_getD, List.getElem?_eq_getElem h]
  exact List.all_eq_true.1 ha _ (List.getElem_mem h)

theorem string_rep (s : List UInt8) : (s.drop (0 : Int).toNat) = s := by simp

theorem set_go {α : Type} {l : List α} {k : Nat} {v : α} {m : List α} (h : k < l.length) : (l.set k v).take (k + 1) ++ m = l.take k ++ (v :: m) := by
  rw [take_set h]; simp

theorem loop_i_SwapWord {R : Type} {L n : Nat} (hn : 1 ≤ n) {s : List UInt8} {x y : Int} (hx : 0 ≤ x) (hx6 : x ≤ 5) (hy : 0 ≤ y) (hy6 : y ≤ 5) (hs : s.length ≤ 50000) (ha : s.all okB = true) {k : Exit → List A → H → Option R} : ∀ (i : Int) (m : Nat) (o : List UInt8) (len : Nat) (h0 : 0 ≤ i) (hi : i ≤ s.length) (hm : (s.length : Int) - i < m) (hl : len = o.length) (ho : o.length = s.length),
    kLoop env (evCall env L n) L 0 [] (true :: true :: true :: false :: false :: false :: true :: true :: false :: false :: false :: false :: false :: false :: false :: false :: false :: false :: false :: false :: false :: false :: false :: false :: false :: false :: true :: true :: false :: false :: false :: false :: false :: false :: false :: false :: false :: false :: false :: false :: false :: false :: false :: []) (lp_i_SwapWord 0) (false :: false :: false :: true :: true :: true :: false :: false :: true :: true :: true :: true :: true :: true :: true :: true :: true :: true :: true :: true :: true :: true :: true :: true :: true :: true :: false :: false :: true :: true :: true :: true :: true :: true :: true :: true :: true :: true :: true :: true :: true :: true :: true :: []) m (.d (.str s) :: .d (.int .i64 x) :: .d (.int .i64 y) :: .junk :: .junk :: .junk :: .d (.str ([])) :: .sl 0 0 0 len :: .junk :: .junk :: .junk :: .junk :: .junk :: .junk :: .junk :: .junk :: .junk :: .junk :: .junk :: .junk :: .junk :: .junk :: .junk :: .junk :: .junk :: .junk :: .d (.int .i64 (s.length)) :: .d (.int .i64 i) :: .junk :: .junk :: .junk :: .junk :: .junk :: .junk :: .junk :: .junk :: .junk :: .junk :: .junk :: .junk :: .junk :: .junk :: .junk :: []) [.arr (bytesL o) 1 0] k
    = k (.exit 0) (.d (.str s) :: .d (.int .i64 x) :: .d (.int .i64 y) :: .junk :: .junk :: .junk :: .d (.str ([])) :: .sl 0 0 0 s.length :: .junk :: .junk :: .junk :: .junk :: .junk :: .junk :: .junk :: .junk :: .junk :: .junk :: .junk :: .junk :: .junk :: .junk :: .junk :: .junk :: .junk :: .junk :: .d (.int .i64 (s.length)) :: .d (.int .i64 (s.length)) :: .junk :: .junk :: .junk :: .junk :: .junk :: .junk :: .junk :: .junk :: .junk :: .junk :: .junk :: .junk :: .junk :: .junk :: .junk :: []) [.arr (bytesL (o.take i.toNat ++ (s.drop i.toNat).map (swapB x y))) 1 0] := by
  intro i m o len h0 hi hm hl ho
  obtain ⟨j, hj⟩ : ∃ j : Nat, (j : Int) = (s.length : Int) - i := ⟨((s.length : Int) - i).toNat, by omega⟩
  induction j generalizing i m o len with
  | zero =>
    obtain ⟨m, rfl⟩ : ∃ q, m = q + 1 := ⟨m - 1, by omega⟩
    obtain rfl : i = s.length := by omega
    rw [step_i_SwapWord_0]
    simp only [S_i_SwapWord_0, Tryd.f12, slimF, slimL, lpOf, codeOf, Option.getD_some, slim, loops, List.length_nil, Nat.add_zero, Nat.zero_add, slimO, slimG, List.map_cons, List.map_nil, List.getElem?_cons_zero, List.getElem?_cons_succ, Option.bind_some, Bool.false_eq_true, if_false, if_true, List.length_cons, List.replicate, List.cons_append, List.nil_append, List.append_nil, Nat.reduceAdd, Nat.reduceSub, List.getD_cons_zero, List.getD_cons_succ]
    simp -implicitDefEqProofs (maxSteps := 2000000) (disch := first | assumption | (refine Shut.mk ?_; kernel_rfl) | omega | (simp only [List.getElem?_cons_zero, List.getElem?_cons_succ]; done) | (simp only [List.length_append, List.length_cons, List.length_nil, List.length_set, List.length_replicate, List.length_map, List.length_take, List.length_drop] <;> omega) | (fail)) only [↓WD, ↓kAsg, ↓kRet, ↓reduceIte, ↓clash_free, ↓WDD, ↓kOpD_callv, WK, thawAt, evPick, aPut, leavesBody, outA, outS, outSs, idsA, idsL, mapA, calmAs, calmA, calmSl, calmPt, genOf, calmH, calmFrom, calmO, mapAs, maskB, isUndef, tidy, Int.reduceLT, Int.reduceLE, Int.reduceEq, Int.reduceNe, Int.reduceNeg, Int.reduceAdd, Int.reduceSub, Int.reduceMul, Int.reduceToNat, Nat.reduceAdd, Nat.reduceSub, aBuiltin, aAppend, aAppend0, aAppendV, isVec, bears, emptyArr, sliceAs, keeps, aBuildVec, aMakeVec, sliceCells, aBuildSlice, aIndexAddr, aLoad, runOf, ofCells, TY, LB, aLen, withInt, fillA, frzL, listWith, frz, frz0, deep, cellsA, setRun, okCell, List.replicate, notJunk, Nat.reduceMul, Nat.reduceLeDiff, Nat.reducePow, Nat.reduceBEq, boxIds, aResults, aResult, outAs, tupA, evNilCheck, aMove, MD, opds, evOp, asOper, one, two, evCallee, evAssign, aNew, evSlice, evField, evExtract, evFunc, pureOp, isCall, readOp, List.range', back, putBack, fuelR, closed, aStore, thawCells, place, pack, mapO, Nat.reduceEqDiff, Nat.reduceLT, maxNeed, i64_id, frzA, frzAs, memD, lentA, footC, ↓kc_i_WordValid, ↓kc_i_isLetter, ↓kc_i_letterAt, ↓kc_i_swapped, ↓kc_i_letterByte, u_string, Int.lt_irrefl]
    have e1 : o.take s.length = o := List.take_of_length_le (by omega)
    rw [List.drop_length, e1, List.map_nil, List.append_nil, hl, ho]
  | succ j ih =>
    obtain ⟨m, rfl⟩ : ∃ q, m = q + 1 := ⟨m - 1, by omega⟩
    have hc : i < s.length := by omega
    have hk : i.toNat < s.length := by omega
    have hk2 : i.toNat < o.length := by omega
    have e1 : (i + 1).toNat = i.toNat + 1 := by omega
    have hb := all_at (d := 0) ha hk
    have hsl := isLet_iff.1 hb
    have hsw := swapI_let hsl.1 hx hy
    have hsw2 := swapI_le hsl.2 hx6 hy6
    have hlet : isLet (ltr (s.getD i.toNat 0)) = true := hb
    have hlen : (o.set i.toNat (byteI (swapI (ltr (s.getD i.toNat 0)) x y))).length = s.length := by rw [List.length_set]; exact ho
    have hc2 : i < (len : Int) := by omega
    rw [step_i_SwapWord_0]
    simp only [S_i_SwapWord_0, Tryd.f12, slimF, slimL, lpOf, codeOf, Option.getD_some, slim, loops, List.length_nil, Nat.add_zero, Nat.zero_add, slimO, slimG, List.map_cons, List.map_nil, List.getElem?_cons_zero, List.getElem?_cons_succ, Option.bind_some, Bool.false_eq_true, if_false, if_true, List.length_cons, List.replicate, List.cons_append, List.nil_append, List.append_nil, Nat.reduceAdd, Nat.reduceSub, List.getD_cons_zero, List.getD_cons_succ]
    simp -implicitDefEqProofs (maxSteps := 2000000) (disch := first | assumption | (refine Shut.mk ?_; kernel_rfl) | omega | (simp only [List.getElem?_cons_zero, List.getElem?_cons_succ]; done) | (simp only [List.length_append, List.length_cons, List.length_nil, List.length_set, List.length_replicate, List.length_map, List.length_take, List.length_drop] <;> omega) | (fail)) only [↓WD, ↓kAsg, ↓kRet, ↓reduceIte, ↓clash_free, ↓WDD, ↓kOpD_callv, WK, thawAt, evPick, aPut, leavesBody, outA, outS, outSs, idsA, idsL, mapA, calmAs, calmA, calmSl, calmPt, genOf, calmH, calmFrom, calmO, mapAs, maskB, isUndef, tidy, Int.reduceLT, Int.reduceLE, Int.reduceEq, Int.reduceNe, Int.reduceNeg, Int.reduceAdd, Int.reduceSub, Int.reduceMul, Int.reduceToNat, Nat.reduceAdd, Nat.reduceSub, aBuiltin, aAppend, aAppend0, aAppendV, isVec, bears, emptyArr, sliceAs, keeps, aBuildVec, aMakeVec, sliceCells, aBuildSlice, aIndexAddr, aLoad, runOf, ofCells, TY, LB, aLen, withInt, fillA, frzL, listWith, frz, frz0, deep, cellsA, setRun, okCell, List.replicate, notJunk, Nat.reduceMul, Nat.reduceLeDiff, Nat.reducePow, Nat.reduceBEq, boxIds, aResults, aResult, outAs, tupA, evNilCheck, aMove, MD, opds, evOp, asOper, one, two, evCallee, evAssign, aNew, evSlice, evField, evExtract, evFunc, pureOp, isCall, readOp, List.range', back, putBack, fuelR, closed, aStore, thawCells, place, pack, mapO, Nat.reduceEqDiff, Nat.reduceLT, maxNeed, i64_id, frzA, frzAs, memD, lentA, footC, ↓kc_i_WordValid, ↓kc_i_isLetter, u_string, hc, hc2, ↓kc_i_letterAt, hlet, ↓kc_i_swapped, ↓kc_i_letterByte, u_bytes, c_uint8, Nat.lt_irrefl, bytesL_length, ↓st_byte0, ↓ih]
    rw [map_go hk (d := 0), e1, set_go hk2]
    rfl

theorem ev_i_SwapWord {L n : Nat} (hn : 4 ≤ n) (s : List UInt8) (x y : Int) (hL : 2 ^ 60 ≤ L) : evCall env L n 12 [.d (.str s), .d (.int .i64 x), .d (.int .i64 y)] [] = some (.d (.str (swapWord s x y)), []) := by
  unfold swapWord
  cases hw : wordOK s with
  | false =>
    obtain ⟨n, rfl⟩ : ∃ m, n = m + 1 := ⟨n - 1, by omega⟩
    rw [fn_i_SwapWord]
    simp only [S_i_SwapWord, Tryd.f12, slimF, slimL, lpOf, codeOf, Option.getD_some, slim, loops, List.length_nil, Nat.add_zero, Nat.zero_add, slimO, slimG, List.map_cons, List.map_nil, List.getElem?_cons_zero, List.getElem?_cons_succ, Option.bind_some, Bool.false_eq_true, if_false, if_true, List.length_cons, List.replicate, List.cons_append, List.nil_append, List.append_nil, Nat.reduceAdd, Nat.reduceSub, List.getD_cons_zero, List.getD_cons_succ]
    simp -implicitDefEqProofs (maxSteps := 2000000) (disch := first | assumption | (refine Shut.mk ?_; kernel_rfl) | omega | (simp only [List.getElem?_cons_zero, List.getElem?_cons_succ]; done) | (simp only [List.length_append, List.length_cons, List.length_nil, List.length_set, List.length_replicate, List.length_map, List.length_take, List.length_drop] <;> omega) | (fail)) only [↓WD, ↓kAsg, ↓kRet, ↓reduceIte, ↓clash_free, ↓WDD, ↓kOpD_callv, WK, thawAt, evPick, aPut, leavesBody, outA, outS, outSs, idsA, idsL, mapA, calmAs, calmA, calmSl, calmPt, genOf, calmH, calmFrom, calmO, mapAs, maskB, isUndef, tidy, Int.reduceLT, Int.reduceLE, Int.reduceEq, Int.reduceNe, Int.reduceNeg, Int.reduceAdd, Int.reduceSub, Int.reduceMul, Int.reduceToNat, Nat.reduceAdd, Nat.reduceSub, aBuiltin, aAppend, aAppend0, aAppendV, isVec, bears, emptyArr, sliceAs, keeps, aBuildVec, aMakeVec, sliceCells, aBuildSlice, aIndexAddr, aLoad, runOf, ofCells, TY, LB, aLen, withInt, fillA, frzL, listWith, frz, frz0, deep, cellsA, setRun, okCell, List.replicate, notJunk, Nat.reduceMul, Nat.reduceLeDiff, Nat.reducePow, Nat.reduceBEq, boxIds, aResults, aResult, outAs, tupA, evNilCheck, aMove, MD, opds, evOp, asOper, one, two, evCallee, evAssign, aNew, evSlice, evField, evExtract, evFunc, pureOp, isCall, readOp, List.range', back, putBack, fuelR, closed, aStore, thawCells, place, pack, mapO, Nat.reduceEqDiff, Nat.reduceLT, maxNeed, i64_id, frzA, frzAs, memD, lentA, footC, ↓kc_i_isLetter, ↓kc_i_letterAt, ↓kc_i_swapped, ↓kc_i_letterByte, ↓loop_i_SwapWord, ↓kc_i_WordValid, hw, Bool.false_and]
  | true =>
    cases hx : isLet x with
    | false =>
      obtain ⟨n, rfl⟩ : ∃ m, n = m + 1 := ⟨n - 1, by omega⟩
      rw [fn_i_SwapWord]
      simp only [S_i_SwapWord, Tryd.f12, slimF, slimL, lpOf, codeOf, Option.getD_some, slim, loops, List.length_nil, Nat.add_zero, Nat.zero_add, slimO, slimG, List.map_cons, List.map_nil, List.getElem?_cons_zero, List.getElem?_cons_succ, Option.bind_some, Bool.false_eq_true, if_false, if_true, List.length_cons, List.replicate, List.cons_append, List.nil_append, List.append_nil, Nat.reduceAdd, Nat.reduceSub, List.getD_cons_zero, List.getD_cons_succ]
      simp -implicitDefEqProofs (maxSteps := 2000000) (disch := first | assumption | (refine Shut.mk ?_; kernel_rfl) | omega | (simp only [List.getElem?_cons_zero, List.getElem?_cons_succ]; done) | (simp only [List.length_append, List.length_cons, List.length_nil, List.length_set, List.length_replicate, List.length_map, List.length_take, List.length_drop] <;> omega) | (fail)) only [↓WD, ↓kAsg, ↓kRet, ↓reduceIte, ↓clash_free, ↓WDD, ↓kOpD_callv, WK, thawAt, evPick, aPut, leavesBody, outA, outS, outSs, idsA, idsL, mapA, calmAs, calmA, calmSl, calmPt, genOf, calmH, calmFrom, calmO, mapAs, maskB, isUndef, tidy, Int.reduceLT, Int.reduceLE, Int.reduceEq, Int.reduceNe, Int.reduceNeg, Int.reduceAdd, Int.reduceSub, Int.reduceMul, Int.reduceToNat, Nat.reduceAdd, Nat.reduceSub, aBuiltin, aAppend, aAppend0, aAppendV, isVec, bears, emptyArr, sliceAs, keeps, aBuildVec, aMakeVec, sliceCells, aBuildSlice, aIndexAddr, aLoad, runOf, ofCells, TY, LB, aLen, withInt, fillA, frzL, listWith, frz, frz0, deep, cellsA, setRun, okCell, List.replicate, notJunk, Nat.reduceMul, Nat.reduceLeDiff, Nat.reducePow, Nat.reduceBEq, boxIds, aResults, aResult, outAs, tupA, evNilCheck, aMove, MD, opds, evOp, asOper, one, two, evCallee, evAssign, aNew, evSlice, evField, evExtract, evFunc, pureOp, isCall, readOp, List.range', back, putBack, fuelR, closed, aStore, thawCells, place, pack, mapO, Nat.reduceEqDiff, Nat.reduceLT, maxNeed, i64_id, frzA, frzAs, memD, lentA, footC, ↓kc_i_letterAt, ↓kc_i_swapped, ↓kc_i_letterByte, ↓loop_i_SwapWord, ↓kc_i_WordValid, ↓kc_i_isLetter, hw, hx, Bool.false_and, Bool.and_false]
    | true =>
      cases hy : isLet y with
      | false =>
        obtain ⟨n, rfl⟩ : ∃ m, n = m + 1 := ⟨n - 1, by omega⟩
        rw [fn_i_SwapWord]
        simp only [S_i_SwapWord, Tryd.f12, slimF, slimL, lpOf, codeOf, Option.getD_some, slim, loops, List.length_nil, Nat.add_zero, Nat.zero_add, slimO, slimG, List.map_cons, List.map_nil, List.getElem?_cons_zero, List.getElem?_cons_succ, Option.bind_some, Bool.false_eq_true, if_false, if_true, List.length_cons, List.replicate, List.cons_append, List.nil_append, List.append_nil, Nat.reduceAdd, Nat.reduceSub, List.getD_cons_zero, List.getD_cons_succ]
        simp -implicitDefEqProofs (maxSteps := 2000000) (disch := first | assumption | (refine Shut.mk ?_; kernel_rfl) | omega | (simp only [List.getElem?_cons_zero, List.getElem?_cons_succ]; done) | (simp only [List.length_append, List.length_cons, List.length_nil, List.length_set, List.length_replicate, List.length_map, List.length_take, List.length_drop] <;> omega) | (fail)) only [↓WD, ↓kAsg, ↓kRet, ↓reduceIte, ↓clash_free, ↓WDD, ↓kOpD_callv, WK, thawAt, evPick, aPut, leavesBody, outA, outS, outSs, idsA, idsL, mapA, calmAs, calmA, calmSl, calmPt, genOf, calmH, calmFrom, calmO, mapAs, maskB, isUndef, tidy, Int.reduceLT, Int.reduceLE, Int.reduceEq, Int.reduceNe, Int.reduceNeg, Int.reduceAdd, Int.reduceSub, Int.reduceMul, Int.reduceToNat, Nat.reduceAdd, Nat.reduceSub, aBuiltin, aAppend, aAppend0, aAppendV, isVec, bears, emptyArr, sliceAs, keeps, aBuildVec, aMakeVec, sliceCells, aBuildSlice, aIndexAddr, aLoad, runOf, ofCells, TY, LB, aLen, withInt, fillA, frzL, listWith, frz, frz0, deep, cellsA, setRun, okCell, List.replicate, notJunk, Nat.reduceMul, Nat.reduceLeDiff, Nat.reducePow, Nat.reduceBEq, boxIds, aResults, aResult, outAs, tupA, evNilCheck, aMove, MD, opds, evOp, asOper, one, two, evCallee, evAssign, aNew, evSlice, evField, evExtract, evFunc, pureOp, isCall, readOp, List.range', back, putBack, fuelR, closed, aStore, thawCells, place, pack, mapO, Nat.reduceEqDiff, Nat.reduceLT, maxNeed, i64_id, frzA, frzAs, memD, lentA, footC, ↓kc_i_letterAt, ↓kc_i_swapped, ↓kc_i_letterByte, ↓loop_i_SwapWord, ↓kc_i_WordValid, ↓kc_i_isLetter, hw, hx, hy, Bool.and_false]
      | true =>
        have bx := isLet_iff.1 hx
        have by' := isLet_iff.1 hy
        have hw' := hw
        unfold wordOK at hw'
        simp only [Bool.and_eq_true, decide_eq_true_eq] at hw'
        obtain ⟨hw1, hw2⟩ := hw'
        obtain ⟨n, rfl⟩ : ∃ m, n = m + 1 := ⟨n - 1, by omega⟩
        rw [fn_i_SwapWord]
        simp only [S_i_SwapWord, Tryd.f12, slimF, slimL, lpOf, codeOf, Option.getD_some, slim, loops, List.length_nil, Nat.add_zero, Nat.zero_add, slimO, slimG, List.map_cons, List.map_nil, List.getElem?_cons_zero, List.getElem?_cons_succ, Option.bind_some, Bool.false_eq_true, if_false, if_true, List.length_cons, List.replicate, List.cons_append, List.nil_append, List.append_nil, Nat.reduceAdd, Nat.reduceSub, List.getD_cons_zero, List.getD_cons_succ]
        simp -implicitDefEqProofs (maxSteps := 2000000) (disch := first | assumption | (refine Shut.mk ?_; kernel_rfl) | omega | (simp only [List.getElem?_cons_zero, List.getElem?_cons_succ]; done) | (simp only [List.length_append, List.length_cons, List.length_nil, List.length_set, List.length_replicate, List.length_map, List.length_take, List.length_drop] <;> omega) | (fail)) only [↓WD, ↓kAsg, ↓kRet, ↓reduceIte, ↓clash_free, ↓WDD, ↓kOpD_callv, WK, thawAt, evPick, aPut, leavesBody, outA, outS, outSs, idsA, idsL, mapA, calmAs, calmA, calmSl, calmPt, genOf, calmH, calmFrom, calmO, mapAs, maskB, isUndef, tidy, Int.reduceLT, Int.reduceLE, Int.reduceEq, Int.reduceNe, Int.reduceNeg, Int.reduceAdd, Int.reduceSub, Int.reduceMul, Int.reduceToNat, Nat.reduceAdd, Nat.reduceSub, aBuiltin, aAppend, aAppend0, aAppendV, isVec, bears, emptyArr, sliceAs, keeps, aBuildVec, aMakeVec, sliceCells, aBuildSlice, aIndexAddr, aLoad, runOf, ofCells, TY, LB, aLen, withInt, fillA, frzL, listWith, frz, frz0, deep, cellsA, setRun, okCell, List.replicate, notJunk, Nat.reduceMul, Nat.reduceLeDiff, Nat.reducePow, Nat.reduceBEq, boxIds, aResults, aResult, outAs, tupA, evNilCheck, aMove, MD, opds, evOp, asOper, one, two, evCallee, evAssign, aNew, evSlice, evField, evExtract, evFunc, pureOp, isCall, readOp, List.range', back, putBack, fuelR, closed, aStore, thawCells, place, pack, mapO, Nat.reduceEqDiff, Nat.reduceLT, maxNeed, i64_id, frzA, frzAs, memD, lentA, footC, ↓kc_i_letterAt, ↓kc_i_swapped, ↓kc_i_letterByte, ↓kc_i_WordValid, ↓kc_i_isLetter, hw, hx, hy, Bool.and_self, u_string, u_bytes, ↓make_bytes, Int.toNat_natCast, ↓loop_i_SwapWord, string_rep, ↓conv_bytes_str]
theorem kc_i_SwapWord {R : Type} {L n : Nat} {hq : H} {k : A → H → Option R} (hn : 4 ≤ n) (s : List UInt8) (x y : Int) (hL : 2 ^ 60 ≤ L) : kCall env (evCall env L n) hq 12 [.d (.str s), .d (.int .i64 x), .d (.int .i64 y)] k = k (.d (.str (swapWord s x y))) hq :=
  kCall_still rfl (ev_i_SwapWord hn s x y hL) rfl (.inl rfl)

end Ev
end Go.Proofs.YtojaohcpgelhmaaDoor
