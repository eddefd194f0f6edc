/-
  The exact laws' own functions, at automata: sizes, marks, what is held, copies.
-/
import Derived.Test.YtidobgmklcbcpaaBlock
set_option linter.unusedSimpArgs false
set_option linter.unusedVariables false
set_option maxRecDepth 8000
set_option pp.maxSteps 6000
set_option maxHeartbeats 4000000
namespace Go.Proofs.Ytidobgmklcbcpaa
namespace Ev

/-! ### sizes -/

/-- Rows as they are handed to a law. -/
def rowsLen (rs : List (List Int)) : Prop := rs.length ≤ 9223372036854775807 ∧ ∀ r ∈ rs, r.length ≤ 9223372036854775807

theorem rowsLen_at {rs : List (List Int)} (h : rowsLen rs) {k : Nat} (hk : k < rs.length) : (rs.getD k []).length ≤ 9223372036854775807 := by
  rw [List.getD_eq_getElem?_getD, List.getElem?_eq_getElem hk]
  exact h.2 _ (List.getElem_mem hk)

def szN (left : Int) (n : Nat) : Int := if left < n then -1 else left - n
/-- What is left of a size behind some rows. -/
def szRows : List (List Int) → Int → Int
  | [], l => l
  | r :: rs, l => if l < r.length then -1 else szRows rs (l - r.length)
def szAt : List (List Int) → Int → Nat
  | [], _ => 0
  | r :: rs, l => if l < r.length then 0 else szAt rs (l - r.length) + 1
def szSS (rs : List (List Int)) (left : Int) : Int := if left < rs.length then -1 else szRows rs (left - rs.length)
def szA (rs : List (List Int)) (ac : List Bool) (left : Int) : Int := if szSS rs left < 0 then -1 else szN (szSS rs left) ac.length

theorem szRows_neg : ∀ (rs : List (List Int)) (l : Int), szRows rs l < 0 → 0 ≤ l → szRows rs l = -1
  | [], l, h, h0 => by simp only [szRows] at h; omega
  | r :: rs, l, h, h0 => by
    simp only [szRows] at h ⊢
    split
    · rfl
    · rename_i hc
      rw [if_neg hc] at h
      exact szRows_neg rs _ h (by omega)

theorem szRows_le : ∀ (rs : List (List Int)) (l : Int), 0 ≤ l → szRows rs l ≤ l
  | [], l, h => by simp [szRows]
  | r :: rs, l, h => by
    simp only [szRows]
    split
    · omega
    · have := szRows_le rs (l - r.length) (by omega); omega

theorem szRows_all : ∀ (rs : List (List Int)) (l : Int), 0 ≤ szRows rs l → ∀ r ∈ rs, (r.length : Int) ≤ l
  | [], l, h, r, hr => by cases hr
  | q :: rs, l, h, r, hr => by
    simp only [szRows] at h
    split at h
    · omega
    · rename_i hc
      rcases List.mem_cons.1 hr with h1 | h1
      · subst h1; omega
      · have := szRows_all rs _ h r h1; omega

theorem ev_szIntS {L n : Nat} (hn : 1 ≤ n) (l : List Int) (left : Int) (hl : l.length ≤ 9223372036854775807) (h0 : 0 ≤ left) (h1 : left ≤ 4294967296) : evCall env L n 129 [.d (.ivs l.length (ints l)), .d (.int .i64 left)] [] = some (.d (.int .i64 (szN left l.length)), []) := by
  unfold szN
  by_cases h : left < l.length
  · have h2 : left - (l.length : Int) < 0 := by omega
    obtain ⟨n, rfl⟩ : ∃ m, n = m + 1 := ⟨n - 1, by omega⟩
    rw [fn_szIntS]
    simp only [S_szIntS, Try.f129, slimF, slimL, lpOf, codeOf, Option.getD_some, slim, loops, List.length_nil, Nat.add_zero, Nat.zero_add, slimO, slimG, List.map_cons, List.map_nil, List.getElem?_cons_zero, List.getElem?_cons_succ, Option.bind_some, Bool.false_eq_true, if_false, if_true, List.length_cons, List.replicate, List.cons_append, List.nil_append, List.append_nil, Nat.reduceAdd, Nat.reduceSub, List.getD_cons_zero, List.getD_cons_succ]
    simp -implicitDefEqProofs (maxSteps := 2000000) (disch := first | assumption | (refine Shut.mk ?_; kernel_rfl) | omega | (simp only [List.getElem?_cons_zero, List.getElem?_cons_succ]; done) | (simp only [List.length_append, List.length_cons, List.length_nil, List.length_set, List.length_replicate, List.length_map, List.length_take, List.length_drop] <;> omega)) only [↓WD, ↓kAsg, ↓kRet, ↓reduceIte, ↓clash_free, ↓WDD, ↓kOpD_callv, WK, thawAt, evPick, aPut, leavesBody, outA, outS, outSs, idsA, idsL, mapA, calmAs, calmA, calmSl, calmPt, genOf, calmH, calmFrom, calmO, mapAs, maskB, isUndef, tidy, Int.reduceLT, Int.reduceLE, Int.reduceEq, Int.reduceNe, Int.reduceNeg, Int.reduceAdd, Int.reduceSub, Int.reduceMul, Int.reduceToNat, Nat.reduceAdd, Nat.reduceSub, aBuiltin, aAppend, aAppend0, aAppendV, isVec, bears, emptyArr, sliceAs, keeps, aBuildVec, aMakeVec, sliceCells, aBuildSlice, aIndexAddr, aLoad, runOf, ofCells, TY, LB, aLen, withInt, fillA, frzL, listWith, frz, frz0, deep, cellsA, setRun, okCell, List.replicate, notJunk, Nat.reduceMul, Nat.reduceLeDiff, Nat.reducePow, Nat.reduceBEq, boxIds, aResults, aResult, outAs, tupA, evNilCheck, aMove, MD, opds, evOp, asOper, one, two, evCallee, evAssign, aNew, evSlice, evField, evExtract, evFunc, pureOp, isCall, readOp, List.range', back, putBack, fuelR, closed, aStore, thawCells, place, pack, mapO, Nat.reduceEqDiff, Nat.reduceLT, maxNeed, i64_id, frzA, frzAs, memD, lentA, footC, LA, h, h2]
  · have h2 : ¬ left - (l.length : Int) < 0 := by omega
    obtain ⟨n, rfl⟩ : ∃ m, n = m + 1 := ⟨n - 1, by omega⟩
    rw [fn_szIntS]
    simp only [S_szIntS, Try.f129, slimF, slimL, lpOf, codeOf, Option.getD_some, slim, loops, List.length_nil, Nat.add_zero, Nat.zero_add, slimO, slimG, List.map_cons, List.map_nil, List.getElem?_cons_zero, List.getElem?_cons_succ, Option.bind_some, Bool.false_eq_true, if_false, if_true, List.length_cons, List.replicate, List.cons_append, List.nil_append, List.append_nil, Nat.reduceAdd, Nat.reduceSub, List.getD_cons_zero, List.getD_cons_succ]
    simp -implicitDefEqProofs (maxSteps := 2000000) (disch := first | assumption | (refine Shut.mk ?_; kernel_rfl) | omega | (simp only [List.getElem?_cons_zero, List.getElem?_cons_succ]; done) | (simp only [List.length_append, List.length_cons, List.length_nil, List.length_set, List.length_replicate, List.length_map, List.length_take, List.length_drop] <;> omega)) only [↓WD, ↓kAsg, ↓kRet, ↓reduceIte, ↓clash_free, ↓WDD, ↓kOpD_callv, WK, thawAt, evPick, aPut, leavesBody, outA, outS, outSs, idsA, idsL, mapA, calmAs, calmA, calmSl, calmPt, genOf, calmH, calmFrom, calmO, mapAs, maskB, isUndef, tidy, Int.reduceLT, Int.reduceLE, Int.reduceEq, Int.reduceNe, Int.reduceNeg, Int.reduceAdd, Int.reduceSub, Int.reduceMul, Int.reduceToNat, Nat.reduceAdd, Nat.reduceSub, aBuiltin, aAppend, aAppend0, aAppendV, isVec, bears, emptyArr, sliceAs, keeps, aBuildVec, aMakeVec, sliceCells, aBuildSlice, aIndexAddr, aLoad, runOf, ofCells, TY, LB, aLen, withInt, fillA, frzL, listWith, frz, frz0, deep, cellsA, setRun, okCell, List.replicate, notJunk, Nat.reduceMul, Nat.reduceLeDiff, Nat.reducePow, Nat.reduceBEq, boxIds, aResults, aResult, outAs, tupA, evNilCheck, aMove, MD, opds, evOp, asOper, one, two, evCallee, evAssign, aNew, evSlice, evField, evExtract, evFunc, pureOp, isCall, readOp, List.range', back, putBack, fuelR, closed, aStore, thawCells, place, pack, mapO, Nat.reduceEqDiff, Nat.reduceLT, maxNeed, i64_id, frzA, frzAs, memD, lentA, footC, LA, h, h2]
theorem kc_szIntS {R : Type} {L n : Nat} {hq : H} {k : A → H → Option R} (hn : 1 ≤ n) (l : List Int) (left : Int) (hl : l.length ≤ 9223372036854775807) (h0 : 0 ≤ left) (h1 : left ≤ 4294967296) : kCall env (evCall env L n) hq 129 [.d (.ivs l.length (ints l)), .d (.int .i64 left)] k = k (.d (.int .i64 (szN left l.length))) hq :=
  kCall_still rfl (ev_szIntS hn l left hl h0 h1) rfl (.inl rfl)
theorem kl_szIntS {R : Type} {L n : Nat} {k : A → Option R} (hn : 1 ≤ n) (l : List Int) (left : Int) (hl : l.length ≤ 9223372036854775807) (h0 : 0 ≤ left) (h1 : left ≤ 4294967296) : kLent (evCall env L n) 129 [.d (.ivs l.length (ints l)), .d (.int .i64 left)] k = k (.d (.int .i64 (szN left l.length))) :=
  kLent_ev (ev_szIntS hn l left hl h0 h1) rfl
theorem kv_szIntS_1 {R : Type} {L n : Nat} {hq : H} {k : A → H → Option R} {id0 g0 o0 len0 : Nat} {left : Int} : kCall env (evCall env L n) hq 129 [.sl id0 g0 o0 len0, .d (.int .i64 left)] k = match box (lentA hq [.sl id0 g0 o0 len0, .d (.int .i64 left)]) with
    | .mk (some fs) => kLent (evCall env L n) 129 fs fun r => k r hq
    | _ => none := kCall_lent mode_szIntS

theorem ev_szBoolS {L n : Nat} (hn : 1 ≤ n) (l : List Bool) (left : Int) (hl : l.length ≤ 9223372036854775807) (h0 : 0 ≤ left) (h1 : left ≤ 4294967296) : evCall env L n 90 [.d (.ivs l.length (bools l)), .d (.int .i64 left)] [] = some (.d (.int .i64 (szN left l.length)), []) := by
  unfold szN
  by_cases h : left < l.length
  · have h2 : left - (l.length : Int) < 0 := by omega
    obtain ⟨n, rfl⟩ : ∃ m, n = m + 1 := ⟨n - 1, by omega⟩
    rw [fn_szBoolS]
    simp only [S_szBoolS, Try.f90, slimF, slimL, lpOf, codeOf, Option.getD_some, slim, loops, List.length_nil, Nat.add_zero, Nat.zero_add, slimO, slimG, List.map_cons, List.map_nil, List.getElem?_cons_zero, List.getElem?_cons_succ, Option.bind_some, Bool.false_eq_true, if_false, if_true, List.length_cons, List.replicate, List.cons_append, List.nil_append, List.append_nil, Nat.reduceAdd, Nat.reduceSub, List.getD_cons_zero, List.getD_cons_succ]
    simp -implicitDefEqProofs (maxSteps := 2000000) (disch := first | assumption | (refine Shut.mk ?_; kernel_rfl) | omega | (simp only [List.getElem?_cons_zero, List.getElem?_cons_succ]; done) | (simp only [List.length_append, List.length_cons, List.length_nil, List.length_set, List.length_replicate, List.length_map, List.length_take, List.length_drop] <;> omega)) only [↓WD, ↓kAsg, ↓kRet, ↓reduceIte, ↓clash_free, ↓WDD, ↓kOpD_callv, WK, thawAt, evPick, aPut, leavesBody, outA, outS, outSs, idsA, idsL, mapA, calmAs, calmA, calmSl, calmPt, genOf, calmH, calmFrom, calmO, mapAs, maskB, isUndef, tidy, Int.reduceLT, Int.reduceLE, Int.reduceEq, Int.reduceNe, Int.reduceNeg, Int.reduceAdd, Int.reduceSub, Int.reduceMul, Int.reduceToNat, Nat.reduceAdd, Nat.reduceSub, aBuiltin, aAppend, aAppend0, aAppendV, isVec, bears, emptyArr, sliceAs, keeps, aBuildVec, aMakeVec, sliceCells, aBuildSlice, aIndexAddr, aLoad, runOf, ofCells, TY, LB, aLen, withInt, fillA, frzL, listWith, frz, frz0, deep, cellsA, setRun, okCell, List.replicate, notJunk, Nat.reduceMul, Nat.reduceLeDiff, Nat.reducePow, Nat.reduceBEq, boxIds, aResults, aResult, outAs, tupA, evNilCheck, aMove, MD, opds, evOp, asOper, one, two, evCallee, evAssign, aNew, evSlice, evField, evExtract, evFunc, pureOp, isCall, readOp, List.range', back, putBack, fuelR, closed, aStore, thawCells, place, pack, mapO, Nat.reduceEqDiff, Nat.reduceLT, maxNeed, i64_id, frzA, frzAs, memD, lentA, footC, LA, h, h2]
  · have h2 : ¬ left - (l.length : Int) < 0 := by omega
    obtain ⟨n, rfl⟩ : ∃ m, n = m + 1 := ⟨n - 1, by omega⟩
    rw [fn_szBoolS]
    simp only [S_szBoolS, Try.f90, slimF, slimL, lpOf, codeOf, Option.getD_some, slim, loops, List.length_nil, Nat.add_zero, Nat.zero_add, slimO, slimG, List.map_cons, List.map_nil, List.getElem?_cons_zero, List.getElem?_cons_succ, Option.bind_some, Bool.false_eq_true, if_false, if_true, List.length_cons, List.replicate, List.cons_append, List.nil_append, List.append_nil, Nat.reduceAdd, Nat.reduceSub, List.getD_cons_zero, List.getD_cons_succ]
    simp -implicitDefEqProofs (maxSteps := 2000000) (disch := first | assumption | (refine Shut.mk ?_; kernel_rfl) | omega | (simp only [List.getElem?_cons_zero, List.getElem?_cons_succ]; done) | (simp only [List.length_append, List.length_cons, List.length_nil, List.length_set, List.length_replicate, List.length_map, List.length_take, List.length_drop] <;> omega)) only [↓WD, ↓kAsg, ↓kRet, ↓reduceIte, ↓clash_free, ↓WDD, ↓kOpD_callv, WK, thawAt, evPick, aPut, leavesBody, outA, outS, outSs, idsA, idsL, mapA, calmAs, calmA, calmSl, calmPt, genOf, calmH, calmFrom, calmO, mapAs, maskB, isUndef, tidy, Int.reduceLT, Int.reduceLE, Int.reduceEq, Int.reduceNe, Int.reduceNeg, Int.reduceAdd, Int.reduceSub, Int.reduceMul, Int.reduceToNat, Nat.reduceAdd, Nat.reduceSub, aBuiltin, aAppend, aAppend0, aAppendV, isVec, bears, emptyArr, sliceAs, keeps, aBuildVec, aMakeVec, sliceCells, aBuildSlice, aIndexAddr, aLoad, runOf, ofCells, TY, LB, aLen, withInt, fillA, frzL, listWith, frz, frz0, deep, cellsA, setRun, okCell, List.replicate, notJunk, Nat.reduceMul, Nat.reduceLeDiff, Nat.reducePow, Nat.reduceBEq, boxIds, aResults, aResult, outAs, tupA, evNilCheck, aMove, MD, opds, evOp, asOper, one, two, evCallee, evAssign, aNew, evSlice, evField, evExtract, evFunc, pureOp, isCall, readOp, List.range', back, putBack, fuelR, closed, aStore, thawCells, place, pack, mapO, Nat.reduceEqDiff, Nat.reduceLT, maxNeed, i64_id, frzA, frzAs, memD, lentA, footC, LA, h, h2]
theorem kc_szBoolS {R : Type} {L n : Nat} {hq : H} {k : A → H → Option R} (hn : 1 ≤ n) (l : List Bool) (left : Int) (hl : l.length ≤ 9223372036854775807) (h0 : 0 ≤ left) (h1 : left ≤ 4294967296) : kCall env (evCall env L n) hq 90 [.d (.ivs l.length (bools l)), .d (.int .i64 left)] k = k (.d (.int .i64 (szN left l.length))) hq :=
  kCall_still rfl (ev_szBoolS hn l left hl h0 h1) rfl (.inl rfl)
theorem kl_szBoolS {R : Type} {L n : Nat} {k : A → Option R} (hn : 1 ≤ n) (l : List Bool) (left : Int) (hl : l.length ≤ 9223372036854775807) (h0 : 0 ≤ left) (h1 : left ≤ 4294967296) : kLent (evCall env L n) 90 [.d (.ivs l.length (bools l)), .d (.int .i64 left)] k = k (.d (.int .i64 (szN left l.length))) :=
  kLent_ev (ev_szBoolS hn l left hl h0 h1) rfl
theorem kv_szBoolS_1 {R : Type} {L n : Nat} {hq : H} {k : A → H → Option R} {id0 g0 o0 len0 : Nat} {left : Int} : kCall env (evCall env L n) hq 90 [.sl id0 g0 o0 len0, .d (.int .i64 left)] k = match box (lentA hq [.sl id0 g0 o0 len0, .d (.int .i64 left)]) with
    | .mk (some fs) => kLent (evCall env L n) 90 fs fun r => k r hq
    | _ => none := kCall_lent mode_szBoolS

theorem loop_szIntSS {R : Type} {L n : Nat} (hn : 2 ≤ n) {rs : List (List Int)} (hs : rowsLen rs) {k : Exit → List A → H → Option R} : ∀ (i left : Int) (m : Nat) (h0 : 0 ≤ i) (hi : i ≤ rs.length) (hm : (rs.length : Int) - i < m) (hl0 : 0 ≤ left) (hl1 : left ≤ 4294967296),
    kLoop env (evCall env L n) L 0 [] (true :: true :: false :: false :: true :: true :: false :: false :: false :: false :: false :: false :: false :: false :: false :: false :: false :: false :: false :: false :: false :: false :: false :: false :: false :: false :: false :: []) (lp_szIntSS 0) (false :: false :: true :: true :: false :: false :: true :: true :: true :: true :: true :: true :: true :: true :: true :: true :: true :: true :: true :: true :: true :: true :: true :: true :: true :: true :: true :: []) m (.d (.ivs rs.length (rowsD rs)) :: .d (.int .i64 left) :: .junk :: .junk :: .d (.int .i64 0) :: .d (.int .i64 i) :: .junk :: .junk :: .junk :: .junk :: .junk :: .junk :: .junk :: .junk :: .junk :: .junk :: .junk :: .junk :: .junk :: .junk :: .junk :: .junk :: .junk :: .junk :: .junk :: .junk :: .junk :: []) [] k
    = if szRows (rs.drop i.toNat) left < 0 then k .ret (.d (.ivs rs.length (rowsD rs)) :: .d (.int .i64 ((-1))) :: .junk :: .junk :: .d (.int .i64 ((-1))) :: .d (.int .i64 ((i + szAt (rs.drop i.toNat) left))) :: .junk :: .junk :: .junk :: .junk :: .junk :: .junk :: .junk :: .junk :: .junk :: .junk :: .junk :: .junk :: .junk :: .junk :: .junk :: .junk :: .junk :: .junk :: .junk :: .junk :: .junk :: []) [] else k (.exit 0) (.d (.ivs rs.length (rowsD rs)) :: .d (.int .i64 (szRows (rs.drop i.toNat) left)) :: .junk :: .junk :: .d (.int .i64 0) :: .d (.int .i64 (rs.length)) :: .junk :: .junk :: .junk :: .junk :: .junk :: .junk :: .junk :: .junk :: .junk :: .junk :: .junk :: .junk :: .junk :: .junk :: .junk :: .junk :: .junk :: .junk :: .junk :: .junk :: .junk :: []) [] := by
  intro i left m h0 hi hm hl0 hl1
  have hrl := hs.1
  obtain ⟨j, hj⟩ : ∃ j : Nat, (j : Int) = (rs.length : Int) - i := ⟨((rs.length : Int) - i).toNat, by omega⟩
  induction j generalizing i left m with
  | zero =>
    obtain ⟨m, rfl⟩ : ∃ q, m = q + 1 := ⟨m - 1, by omega⟩
    obtain rfl : i = rs.length := by omega
    have e0 : ¬ left < 0 := by omega
    rw [step_szIntSS_0]
    simp only [S_szIntSS_0, Try.f89, slimF, slimL, lpOf, codeOf, Option.getD_some, slim, loops, List.length_nil, Nat.add_zero, Nat.zero_add, slimO, slimG, List.map_cons, List.map_nil, List.getElem?_cons_zero, List.getElem?_cons_succ, Option.bind_some, Bool.false_eq_true, if_false, if_true, List.length_cons, List.replicate, List.cons_append, List.nil_append, List.append_nil, Nat.reduceAdd, Nat.reduceSub, List.getD_cons_zero, List.getD_cons_succ]
    simp -implicitDefEqProofs (maxSteps := 2000000) (disch := first | assumption | (refine Shut.mk ?_; kernel_rfl) | omega | (simp only [List.getElem?_cons_zero, List.getElem?_cons_succ]; done) | (simp only [List.length_append, List.length_cons, List.length_nil, List.length_set, List.length_replicate, List.length_map, List.length_take, List.length_drop] <;> omega)) only [↓WD, ↓kAsg, ↓kRet, ↓reduceIte, ↓clash_free, ↓WDD, ↓kOpD_callv, WK, thawAt, evPick, aPut, leavesBody, outA, outS, outSs, idsA, idsL, mapA, calmAs, calmA, calmSl, calmPt, genOf, calmH, calmFrom, calmO, mapAs, maskB, isUndef, tidy, Int.reduceLT, Int.reduceLE, Int.reduceEq, Int.reduceNe, Int.reduceNeg, Int.reduceAdd, Int.reduceSub, Int.reduceMul, Int.reduceToNat, Nat.reduceAdd, Nat.reduceSub, aBuiltin, aAppend, aAppend0, aAppendV, isVec, bears, emptyArr, sliceAs, keeps, aBuildVec, aMakeVec, sliceCells, aBuildSlice, aIndexAddr, aLoad, runOf, ofCells, TY, LB, aLen, withInt, fillA, frzL, listWith, frz, frz0, deep, cellsA, setRun, okCell, List.replicate, notJunk, Nat.reduceMul, Nat.reduceLeDiff, Nat.reducePow, Nat.reduceBEq, boxIds, aResults, aResult, outAs, tupA, evNilCheck, aMove, MD, opds, evOp, asOper, one, two, evCallee, evAssign, aNew, evSlice, evField, evExtract, evFunc, pureOp, isCall, readOp, List.range', back, putBack, fuelR, closed, aStore, thawCells, place, pack, mapO, Nat.reduceEqDiff, Nat.reduceLT, maxNeed, i64_id, frzA, frzAs, memD, lentA, footC, ↓kc_szIntS, ↓kl_szIntS, ↓kv_szIntS_1, LA, Int.lt_irrefl]
    simp only [Int.toNat_natCast, List.drop_length, szRows, e0, if_false]
  | succ j ih =>
    obtain ⟨m, rfl⟩ : ∃ q, m = q + 1 := ⟨m - 1, by omega⟩
    have hc : i < rs.length := by omega
    have hk : i.toNat < rs.length := by omega
    have hrow := rowsLen_at hs hk
    have e1 : (i + 1).toNat = i.toNat + 1 := by omega
    rw [drop_go hk (d := [])]
    by_cases hz : left < (rs.getD i.toNat []).length
    · have hz1 : szN left (rs.getD i.toNat []).length = -1 := by unfold szN; rw [if_pos hz]
      rw [step_szIntSS_0]
      simp only [S_szIntSS_0, Try.f89, slimF, slimL, lpOf, codeOf, Option.getD_some, slim, loops, List.length_nil, Nat.add_zero, Nat.zero_add, slimO, slimG, List.map_cons, List.map_nil, List.getElem?_cons_zero, List.getElem?_cons_succ, Option.bind_some, Bool.false_eq_true, if_false, if_true, List.length_cons, List.replicate, List.cons_append, List.nil_append, List.append_nil, Nat.reduceAdd, Nat.reduceSub, List.getD_cons_zero, List.getD_cons_succ]
      simp -implicitDefEqProofs (maxSteps := 2000000) (disch := first | assumption | (refine Shut.mk ?_; kernel_rfl) | omega | (simp only [List.getElem?_cons_zero, List.getElem?_cons_succ]; done) | (simp only [List.length_append, List.length_cons, List.length_nil, List.length_set, List.length_replicate, List.length_map, List.length_take, List.length_drop] <;> omega)) only [↓WD, ↓kAsg, ↓kRet, ↓reduceIte, ↓clash_free, ↓WDD, ↓kOpD_callv, WK, thawAt, evPick, aPut, leavesBody, outA, outS, outSs, idsA, idsL, mapA, calmAs, calmA, calmSl, calmPt, genOf, calmH, calmFrom, calmO, mapAs, maskB, isUndef, tidy, Int.reduceLT, Int.reduceLE, Int.reduceEq, Int.reduceNe, Int.reduceNeg, Int.reduceAdd, Int.reduceSub, Int.reduceMul, Int.reduceToNat, Nat.reduceAdd, Nat.reduceSub, aBuiltin, aAppend, aAppend0, aAppendV, isVec, bears, emptyArr, sliceAs, keeps, aBuildVec, aMakeVec, sliceCells, aBuildSlice, aIndexAddr, aLoad, runOf, ofCells, TY, LB, aLen, withInt, fillA, frzL, listWith, frz, frz0, deep, cellsA, setRun, okCell, List.replicate, notJunk, Nat.reduceMul, Nat.reduceLeDiff, Nat.reducePow, Nat.reduceBEq, boxIds, aResults, aResult, outAs, tupA, evNilCheck, aMove, MD, opds, evOp, asOper, one, two, evCallee, evAssign, aNew, evSlice, evField, evExtract, evFunc, pureOp, isCall, readOp, List.range', back, putBack, fuelR, closed, aStore, thawCells, place, pack, mapO, Nat.reduceEqDiff, Nat.reduceLT, maxNeed, i64_id, frzA, frzAs, memD, lentA, footC, ↓kc_szIntS, ↓kl_szIntS, ↓kv_szIntS_1, LA, u_intss, c_ints, hc, hz1]
      simp only [szRows, szAt, hz, if_true, Int.natCast_zero, Int.add_zero]
      rfl
    · have hz1 : szN left (rs.getD i.toNat []).length = left - (rs.getD i.toNat []).length := by unfold szN; rw [if_neg hz]
      have hz2 : ¬ left - ((rs.getD i.toNat []).length : Int) < 0 := by omega
      rw [step_szIntSS_0]
      simp only [S_szIntSS_0, Try.f89, slimF, slimL, lpOf, codeOf, Option.getD_some, slim, loops, List.length_nil, Nat.add_zero, Nat.zero_add, slimO, slimG, List.map_cons, List.map_nil, List.getElem?_cons_zero, List.getElem?_cons_succ, Option.bind_some, Bool.false_eq_true, if_false, if_true, List.length_cons, List.replicate, List.cons_append, List.nil_append, List.append_nil, Nat.reduceAdd, Nat.reduceSub, List.getD_cons_zero, List.getD_cons_succ]
      simp -implicitDefEqProofs (maxSteps := 2000000) (disch := first | assumption | (refine Shut.mk ?_; kernel_rfl) | omega | (simp only [List.getElem?_cons_zero, List.getElem?_cons_succ]; done) | (simp only [List.length_append, List.length_cons, List.length_nil, List.length_set, List.length_replicate, List.length_map, List.length_take, List.length_drop] <;> omega)) only [↓WD, ↓kAsg, ↓kRet, ↓reduceIte, ↓clash_free, ↓WDD, ↓kOpD_callv, WK, thawAt, evPick, aPut, leavesBody, outA, outS, outSs, idsA, idsL, mapA, calmAs, calmA, calmSl, calmPt, genOf, calmH, calmFrom, calmO, mapAs, maskB, isUndef, tidy, Int.reduceLT, Int.reduceLE, Int.reduceEq, Int.reduceNe, Int.reduceNeg, Int.reduceAdd, Int.reduceSub, Int.reduceMul, Int.reduceToNat, Nat.reduceAdd, Nat.reduceSub, aBuiltin, aAppend, aAppend0, aAppendV, isVec, bears, emptyArr, sliceAs, keeps, aBuildVec, aMakeVec, sliceCells, aBuildSlice, aIndexAddr, aLoad, runOf, ofCells, TY, LB, aLen, withInt, fillA, frzL, listWith, frz, frz0, deep, cellsA, setRun, okCell, List.replicate, notJunk, Nat.reduceMul, Nat.reduceLeDiff, Nat.reducePow, Nat.reduceBEq, boxIds, aResults, aResult, outAs, tupA, evNilCheck, aMove, MD, opds, evOp, asOper, one, two, evCallee, evAssign, aNew, evSlice, evField, evExtract, evFunc, pureOp, isCall, readOp, List.range', back, putBack, fuelR, closed, aStore, thawCells, place, pack, mapO, Nat.reduceEqDiff, Nat.reduceLT, maxNeed, i64_id, frzA, frzAs, memD, lentA, footC, ↓kc_szIntS, ↓kl_szIntS, ↓kv_szIntS_1, LA, u_intss, c_ints, hc, hz1, hz2, ↓ih]
      simp only [szRows, szAt, hz, if_false, e1, Int.natCast_add, Int.add_assoc, Int.add_comm 1]
      rfl

theorem ev_szIntSS {L n : Nat} (hn : 3 ≤ n) (rs : List (List Int)) (left : Int) (hs : rowsLen rs) (h0 : 0 ≤ left) (h1 : left ≤ 4294967296) (hL : 2 ^ 60 ≤ L) : evCall env L n 89 [.d (.ivs rs.length (rowsD rs)), .d (.int .i64 left)] [] = some (.d (.int .i64 (szSS rs left)), []) := by
  have hrl := hs.1
  unfold szSS
  by_cases h : left < rs.length
  · have h2 : left - (rs.length : Int) < 0 := by omega
    obtain ⟨n, rfl⟩ : ∃ m, n = m + 1 := ⟨n - 1, by omega⟩
    rw [fn_szIntSS]
    simp only [S_szIntSS, Try.f89, slimF, slimL, lpOf, codeOf, Option.getD_some, slim, loops, List.length_nil, Nat.add_zero, Nat.zero_add, slimO, slimG, List.map_cons, List.map_nil, List.getElem?_cons_zero, List.getElem?_cons_succ, Option.bind_some, Bool.false_eq_true, if_false, if_true, List.length_cons, List.replicate, List.cons_append, List.nil_append, List.append_nil, Nat.reduceAdd, Nat.reduceSub, List.getD_cons_zero, List.getD_cons_succ]
    simp -implicitDefEqProofs (maxSteps := 2000000) (disch := first | assumption | (refine Shut.mk ?_; kernel_rfl) | omega | (simp only [List.getElem?_cons_zero, List.getElem?_cons_succ]; done) | (simp only [List.length_append, List.length_cons, List.length_nil, List.length_set, List.length_replicate, List.length_map, List.length_take, List.length_drop] <;> omega)) only [↓WD, ↓kAsg, ↓kRet, ↓reduceIte, ↓clash_free, ↓WDD, ↓kOpD_callv, WK, thawAt, evPick, aPut, leavesBody, outA, outS, outSs, idsA, idsL, mapA, calmAs, calmA, calmSl, calmPt, genOf, calmH, calmFrom, calmO, mapAs, maskB, isUndef, tidy, Int.reduceLT, Int.reduceLE, Int.reduceEq, Int.reduceNe, Int.reduceNeg, Int.reduceAdd, Int.reduceSub, Int.reduceMul, Int.reduceToNat, Nat.reduceAdd, Nat.reduceSub, aBuiltin, aAppend, aAppend0, aAppendV, isVec, bears, emptyArr, sliceAs, keeps, aBuildVec, aMakeVec, sliceCells, aBuildSlice, aIndexAddr, aLoad, runOf, ofCells, TY, LB, aLen, withInt, fillA, frzL, listWith, frz, frz0, deep, cellsA, setRun, okCell, List.replicate, notJunk, Nat.reduceMul, Nat.reduceLeDiff, Nat.reducePow, Nat.reduceBEq, boxIds, aResults, aResult, outAs, tupA, evNilCheck, aMove, MD, opds, evOp, asOper, one, two, evCallee, evAssign, aNew, evSlice, evField, evExtract, evFunc, pureOp, isCall, readOp, List.range', back, putBack, fuelR, closed, aStore, thawCells, place, pack, mapO, Nat.reduceEqDiff, Nat.reduceLT, maxNeed, i64_id, frzA, frzAs, memD, lentA, footC, ↓kc_szIntS, ↓kl_szIntS, ↓kv_szIntS_1, ↓loop_szIntSS, LA, h, h2]
  · have h2 : ¬ left - (rs.length : Int) < 0 := by omega
    by_cases h3 : szRows rs (left - rs.length) < 0
    · have h4 := szRows_neg _ _ h3 (by omega)
      obtain ⟨n, rfl⟩ : ∃ m, n = m + 1 := ⟨n - 1, by omega⟩
      rw [fn_szIntSS]
      simp only [S_szIntSS, Try.f89, slimF, slimL, lpOf, codeOf, Option.getD_some, slim, loops, List.length_nil, Nat.add_zero, Nat.zero_add, slimO, slimG, List.map_cons, List.map_nil, List.getElem?_cons_zero, List.getElem?_cons_succ, Option.bind_some, Bool.false_eq_true, if_false, if_true, List.length_cons, List.replicate, List.cons_append, List.nil_append, List.append_nil, Nat.reduceAdd, Nat.reduceSub, List.getD_cons_zero, List.getD_cons_succ]
      simp -implicitDefEqProofs (maxSteps := 2000000) (disch := first | assumption | (refine Shut.mk ?_; kernel_rfl) | omega | (simp only [List.getElem?_cons_zero, List.getElem?_cons_succ]; done) | (simp only [List.length_append, List.length_cons, List.length_nil, List.length_set, List.length_replicate, List.length_map, List.length_take, List.length_drop] <;> omega)) only [↓WD, ↓kAsg, ↓kRet, ↓reduceIte, ↓clash_free, ↓WDD, ↓kOpD_callv, WK, thawAt, evPick, aPut, leavesBody, outA, outS, outSs, idsA, idsL, mapA, calmAs, calmA, calmSl, calmPt, genOf, calmH, calmFrom, calmO, mapAs, maskB, isUndef, tidy, Int.reduceLT, Int.reduceLE, Int.reduceEq, Int.reduceNe, Int.reduceNeg, Int.reduceAdd, Int.reduceSub, Int.reduceMul, Int.reduceToNat, Nat.reduceAdd, Nat.reduceSub, aBuiltin, aAppend, aAppend0, aAppendV, isVec, bears, emptyArr, sliceAs, keeps, aBuildVec, aMakeVec, sliceCells, aBuildSlice, aIndexAddr, aLoad, runOf, ofCells, TY, LB, aLen, withInt, fillA, frzL, listWith, frz, frz0, deep, cellsA, setRun, okCell, List.replicate, notJunk, Nat.reduceMul, Nat.reduceLeDiff, Nat.reducePow, Nat.reduceBEq, boxIds, aResults, aResult, outAs, tupA, evNilCheck, aMove, MD, opds, evOp, asOper, one, two, evCallee, evAssign, aNew, evSlice, evField, evExtract, evFunc, pureOp, isCall, readOp, List.range', back, putBack, fuelR, closed, aStore, thawCells, place, pack, mapO, Nat.reduceEqDiff, Nat.reduceLT, maxNeed, i64_id, frzA, frzAs, memD, lentA, footC, ↓kc_szIntS, ↓kl_szIntS, ↓kv_szIntS_1, ↓loop_szIntSS, LA, h, h2, h3, h4, Int.toNat_zero, List.drop_zero]
    · obtain ⟨n, rfl⟩ : ∃ m, n = m + 1 := ⟨n - 1, by omega⟩
      rw [fn_szIntSS]
      simp only [S_szIntSS, Try.f89, slimF, slimL, lpOf, codeOf, Option.getD_some, slim, loops, List.length_nil, Nat.add_zero, Nat.zero_add, slimO, slimG, List.map_cons, List.map_nil, List.getElem?_cons_zero, List.getElem?_cons_succ, Option.bind_some, Bool.false_eq_true, if_false, if_true, List.length_cons, List.replicate, List.cons_append, List.nil_append, List.append_nil, Nat.reduceAdd, Nat.reduceSub, List.getD_cons_zero, List.getD_cons_succ]
      simp -implicitDefEqProofs (maxSteps := 2000000) (disch := first | assumption | (refine Shut.mk ?_; kernel_rfl) | omega | (simp only [List.getElem?_cons_zero, List.getElem?_cons_succ]; done) | (simp only [List.length_append, List.length_cons, List.length_nil, List.length_set, List.length_replicate, List.length_map, List.length_take, List.length_drop] <;> omega)) only [↓WD, ↓kAsg, ↓kRet, ↓reduceIte, ↓clash_free, ↓WDD, ↓kOpD_callv, WK, thawAt, evPick, aPut, leavesBody, outA, outS, outSs, idsA, idsL, mapA, calmAs, calmA, calmSl, calmPt, genOf, calmH, calmFrom, calmO, mapAs, maskB, isUndef, tidy, Int.reduceLT, Int.reduceLE, Int.reduceEq, Int.reduceNe, Int.reduceNeg, Int.reduceAdd, Int.reduceSub, Int.reduceMul, Int.reduceToNat, Nat.reduceAdd, Nat.reduceSub, aBuiltin, aAppend, aAppend0, aAppendV, isVec, bears, emptyArr, sliceAs, keeps, aBuildVec, aMakeVec, sliceCells, aBuildSlice, aIndexAddr, aLoad, runOf, ofCells, TY, LB, aLen, withInt, fillA, frzL, listWith, frz, frz0, deep, cellsA, setRun, okCell, List.replicate, notJunk, Nat.reduceMul, Nat.reduceLeDiff, Nat.reducePow, Nat.reduceBEq, boxIds, aResults, aResult, outAs, tupA, evNilCheck, aMove, MD, opds, evOp, asOper, one, two, evCallee, evAssign, aNew, evSlice, evField, evExtract, evFunc, pureOp, isCall, readOp, List.range', back, putBack, fuelR, closed, aStore, thawCells, place, pack, mapO, Nat.reduceEqDiff, Nat.reduceLT, maxNeed, i64_id, frzA, frzAs, memD, lentA, footC, ↓kc_szIntS, ↓kl_szIntS, ↓kv_szIntS_1, ↓loop_szIntSS, LA, h, h2, h3, Int.toNat_zero, List.drop_zero]
theorem kc_szIntSS {R : Type} {L n : Nat} {hq : H} {k : A → H → Option R} (hn : 3 ≤ n) (rs : List (List Int)) (left : Int) (hs : rowsLen rs) (h0 : 0 ≤ left) (h1 : left ≤ 4294967296) (hL : 2 ^ 60 ≤ L) : kCall env (evCall env L n) hq 89 [.d (.ivs rs.length (rowsD rs)), .d (.int .i64 left)] k = k (.d (.int .i64 (szSS rs left))) hq :=
  kCall_still rfl (ev_szIntSS hn rs left hs h0 h1 hL) rfl (.inl rfl)
theorem kl_szIntSS {R : Type} {L n : Nat} {k : A → Option R} (hn : 3 ≤ n) (rs : List (List Int)) (left : Int) (hs : rowsLen rs) (h0 : 0 ≤ left) (h1 : left ≤ 4294967296) (hL : 2 ^ 60 ≤ L) : kLent (evCall env L n) 89 [.d (.ivs rs.length (rowsD rs)), .d (.int .i64 left)] k = k (.d (.int .i64 (szSS rs left))) :=
  kLent_ev (ev_szIntSS hn rs left hs h0 h1 hL) rfl
theorem kv_szIntSS_1 {R : Type} {L n : Nat} {hq : H} {k : A → H → Option R} {id0 g0 o0 len0 : Nat} {left : Int} : kCall env (evCall env L n) hq 89 [.sl id0 g0 o0 len0, .d (.int .i64 left)] k = match box (lentA hq [.sl id0 g0 o0 len0, .d (.int .i64 left)]) with
    | .mk (some fs) => kLent (evCall env L n) 89 fs fun r => k r hq
    | _ => none := kCall_lent mode_szIntSS

theorem ev_szAutomaton {L n : Nat} (hn : 4 ≤ n) (al : Int) (rs : List (List Int)) (ac : List Bool) (left : Int) (hs : rowsLen rs) (ha : ac.length ≤ 9223372036854775807) (h0 : 0 ≤ left) (h1 : left ≤ 4294967296) (hL : 2 ^ 60 ≤ L) : evCall env L n 32 [.agg [.d (.int .i64 al), .d (.ivs rs.length (rowsD rs)), .d (.ivs ac.length (bools ac))], .d (.int .i64 left)] [] = some (.d (.int .i64 (szA rs ac left)), []) := by
  unfold szA
  by_cases h : szSS rs left < 0
  · obtain ⟨n, rfl⟩ : ∃ m, n = m + 1 := ⟨n - 1, by omega⟩
    rw [fn_szAutomaton]
    simp only [S_szAutomaton, Try.f32, slimF, slimL, lpOf, codeOf, Option.getD_some, slim, loops, List.length_nil, Nat.add_zero, Nat.zero_add, slimO, slimG, List.map_cons, List.map_nil, List.getElem?_cons_zero, List.getElem?_cons_succ, Option.bind_some, Bool.false_eq_true, if_false, if_true, List.length_cons, List.replicate, List.cons_append, List.nil_append, List.append_nil, Nat.reduceAdd, Nat.reduceSub, List.getD_cons_zero, List.getD_cons_succ]
    simp -implicitDefEqProofs (maxSteps := 2000000) (disch := first | assumption | (refine Shut.mk ?_; kernel_rfl) | omega | (simp only [List.getElem?_cons_zero, List.getElem?_cons_succ]; done) | (simp only [List.length_append, List.length_cons, List.length_nil, List.length_set, List.length_replicate, List.length_map, List.length_take, List.length_drop] <;> omega)) only [↓WD, ↓kAsg, ↓kRet, ↓reduceIte, ↓clash_free, ↓WDD, ↓kOpD_callv, WK, thawAt, evPick, aPut, leavesBody, outA, outS, outSs, idsA, idsL, mapA, calmAs, calmA, calmSl, calmPt, genOf, calmH, calmFrom, calmO, mapAs, maskB, isUndef, tidy, Int.reduceLT, Int.reduceLE, Int.reduceEq, Int.reduceNe, Int.reduceNeg, Int.reduceAdd, Int.reduceSub, Int.reduceMul, Int.reduceToNat, Nat.reduceAdd, Nat.reduceSub, aBuiltin, aAppend, aAppend0, aAppendV, isVec, bears, emptyArr, sliceAs, keeps, aBuildVec, aMakeVec, sliceCells, aBuildSlice, aIndexAddr, aLoad, runOf, ofCells, TY, LB, aLen, withInt, fillA, frzL, listWith, frz, frz0, deep, cellsA, setRun, okCell, List.replicate, notJunk, Nat.reduceMul, Nat.reduceLeDiff, Nat.reducePow, Nat.reduceBEq, boxIds, aResults, aResult, outAs, tupA, evNilCheck, aMove, MD, opds, evOp, asOper, one, two, evCallee, evAssign, aNew, evSlice, evField, evExtract, evFunc, pureOp, isCall, readOp, List.range', back, putBack, fuelR, closed, aStore, thawCells, place, pack, mapO, Nat.reduceEqDiff, Nat.reduceLT, maxNeed, i64_id, frzA, frzAs, memD, lentA, footC, ↓kc_szIntSS, ↓kc_szBoolS, ↓kl_szIntSS, ↓kl_szBoolS, ↓kv_szIntSS_1, ↓kv_szBoolS_1, LA, h]
  · have h5 : szSS rs left ≤ left := by
      unfold szSS at h ⊢
      split
      · omega
      · have := szRows_le rs (left - rs.length) (by omega); omega
    have h6 : 0 ≤ szSS rs left := by omega
    have h7 : szSS rs left ≤ 4294967296 := by omega
    clear h5
    by_cases h2 : szN (szSS rs left) ac.length < 0
    · have h3 : szN (szSS rs left) ac.length = -1 := by
        unfold szN at h2 ⊢
        split
        · rfl
        · rename_i hc; rw [if_neg hc] at h2; omega
      obtain ⟨n, rfl⟩ : ∃ m, n = m + 1 := ⟨n - 1, by omega⟩
      rw [fn_szAutomaton]
      simp only [S_szAutomaton, Try.f32, slimF, slimL, lpOf, codeOf, Option.getD_some, slim, loops, List.length_nil, Nat.add_zero, Nat.zero_add, slimO, slimG, List.map_cons, List.map_nil, List.getElem?_cons_zero, List.getElem?_cons_succ, Option.bind_some, Bool.false_eq_true, if_false, if_true, List.length_cons, List.replicate, List.cons_append, List.nil_append, List.append_nil, Nat.reduceAdd, Nat.reduceSub, List.getD_cons_zero, List.getD_cons_succ]
      simp -implicitDefEqProofs (maxSteps := 2000000) (disch := first | assumption | (refine Shut.mk ?_; kernel_rfl) | omega | (simp only [List.getElem?_cons_zero, List.getElem?_cons_succ]; done) | (simp only [List.length_append, List.length_cons, List.length_nil, List.length_set, List.length_replicate, List.length_map, List.length_take, List.length_drop] <;> omega)) only [↓WD, ↓kAsg, ↓kRet, ↓reduceIte, ↓clash_free, ↓WDD, ↓kOpD_callv, WK, thawAt, evPick, aPut, leavesBody, outA, outS, outSs, idsA, idsL, mapA, calmAs, calmA, calmSl, calmPt, genOf, calmH, calmFrom, calmO, mapAs, maskB, isUndef, tidy, Int.reduceLT, Int.reduceLE, Int.reduceEq, Int.reduceNe, Int.reduceNeg, Int.reduceAdd, Int.reduceSub, Int.reduceMul, Int.reduceToNat, Nat.reduceAdd, Nat.reduceSub, aBuiltin, aAppend, aAppend0, aAppendV, isVec, bears, emptyArr, sliceAs, keeps, aBuildVec, aMakeVec, sliceCells, aBuildSlice, aIndexAddr, aLoad, runOf, ofCells, TY, LB, aLen, withInt, fillA, frzL, listWith, frz, frz0, deep, cellsA, setRun, okCell, List.replicate, notJunk, Nat.reduceMul, Nat.reduceLeDiff, Nat.reducePow, Nat.reduceBEq, boxIds, aResults, aResult, outAs, tupA, evNilCheck, aMove, MD, opds, evOp, asOper, one, two, evCallee, evAssign, aNew, evSlice, evField, evExtract, evFunc, pureOp, isCall, readOp, List.range', back, putBack, fuelR, closed, aStore, thawCells, place, pack, mapO, Nat.reduceEqDiff, Nat.reduceLT, maxNeed, i64_id, frzA, frzAs, memD, lentA, footC, ↓kc_szIntSS, ↓kc_szBoolS, ↓kl_szIntSS, ↓kl_szBoolS, ↓kv_szIntSS_1, ↓kv_szBoolS_1, LA, h, h2, h3]
    · obtain ⟨n, rfl⟩ : ∃ m, n = m + 1 := ⟨n - 1, by omega⟩
      rw [fn_szAutomaton]
      simp only [S_szAutomaton, Try.f32, slimF, slimL, lpOf, codeOf, Option.getD_some, slim, loops, List.length_nil, Nat.add_zero, Nat.zero_add, slimO, slimG, List.map_cons, List.map_nil, List.getElem?_cons_zero, List.getElem?_cons_succ, Option.bind_some, Bool.false_eq_true, if_false, if_true, List.length_cons, List.replicate, List.cons_append, List.nil_append, List.append_nil, Nat.reduceAdd, Nat.reduceSub, List.getD_cons_zero, List.getD_cons_succ]
      simp -implicitDefEqProofs (maxSteps := 2000000) (disch := first | assumption | (refine Shut.mk ?_; kernel_rfl) | omega | (simp only [List.getElem?_cons_zero, List.getElem?_cons_succ]; done) | (simp only [List.length_append, List.length_cons, List.length_nil, List.length_set, List.length_replicate, List.length_map, List.length_take, List.length_drop] <;> omega)) only [↓WD, ↓kAsg, ↓kRet, ↓reduceIte, ↓clash_free, ↓WDD, ↓kOpD_callv, WK, thawAt, evPick, aPut, leavesBody, outA, outS, outSs, idsA, idsL, mapA, calmAs, calmA, calmSl, calmPt, genOf, calmH, calmFrom, calmO, mapAs, maskB, isUndef, tidy, Int.reduceLT, Int.reduceLE, Int.reduceEq, Int.reduceNe, Int.reduceNeg, Int.reduceAdd, Int.reduceSub, Int.reduceMul, Int.reduceToNat, Nat.reduceAdd, Nat.reduceSub, aBuiltin, aAppend, aAppend0, aAppendV, isVec, bears, emptyArr, sliceAs, keeps, aBuildVec, aMakeVec, sliceCells, aBuildSlice, aIndexAddr, aLoad, runOf, ofCells, TY, LB, aLen, withInt, fillA, frzL, listWith, frz, frz0, deep, cellsA, setRun, okCell, List.replicate, notJunk, Nat.reduceMul, Nat.reduceLeDiff, Nat.reducePow, Nat.reduceBEq, boxIds, aResults, aResult, outAs, tupA, evNilCheck, aMove, MD, opds, evOp, asOper, one, two, evCallee, evAssign, aNew, evSlice, evField, evExtract, evFunc, pureOp, isCall, readOp, List.range', back, putBack, fuelR, closed, aStore, thawCells, place, pack, mapO, Nat.reduceEqDiff, Nat.reduceLT, maxNeed, i64_id, frzA, frzAs, memD, lentA, footC, ↓kc_szIntSS, ↓kc_szBoolS, ↓kl_szIntSS, ↓kl_szBoolS, ↓kv_szIntSS_1, ↓kv_szBoolS_1, LA, h, h2]
theorem kc_szAutomaton {R : Type} {L n : Nat} {hq : H} {k : A → H → Option R} (hn : 4 ≤ n) (al : Int) (rs : List (List Int)) (ac : List Bool) (left : Int) (hs : rowsLen rs) (ha : ac.length ≤ 9223372036854775807) (h0 : 0 ≤ left) (h1 : left ≤ 4294967296) (hL : 2 ^ 60 ≤ L) : kCall env (evCall env L n) hq 32 [.agg [.d (.int .i64 al), .d (.ivs rs.length (rowsD rs)), .d (.ivs ac.length (bools ac))], .d (.int .i64 left)] k = k (.d (.int .i64 (szA rs ac left))) hq :=
  kCall_still rfl (ev_szAutomaton hn al rs ac left hs ha h0 h1 hL) rfl (.inl rfl)
theorem kl_szAutomaton {R : Type} {L n : Nat} {k : A → Option R} (hn : 4 ≤ n) (al : Int) (rs : List (List Int)) (ac : List Bool) (left : Int) (hs : rowsLen rs) (ha : ac.length ≤ 9223372036854775807) (h0 : 0 ≤ left) (h1 : left ≤ 4294967296) (hL : 2 ^ 60 ≤ L) : kLent (evCall env L n) 32 [.agg [.d (.int .i64 al), .d (.ivs rs.length (rowsD rs)), .d (.ivs ac.length (bools ac))], .d (.int .i64 left)] k = k (.d (.int .i64 (szA rs ac left))) :=
  kLent_ev (ev_szAutomaton hn al rs ac left hs ha h0 h1 hL) rfl
theorem kv_szAutomaton_1 {R : Type} {L n : Nat} {hq : H} {k : A → H → Option R} {id0 g0 o0 len0 : Nat} {al : Int} {ac : List Bool} {left : Int} : kCall env (evCall env L n) hq 32 [.agg [.d (.int .i64 al), .sl id0 g0 o0 len0, .d (.ivs ac.length (bools ac))], .d (.int .i64 left)] k = match box (lentA hq [.agg [.d (.int .i64 al), .sl id0 g0 o0 len0, .d (.ivs ac.length (bools ac))], .d (.int .i64 left)]) with
    | .mk (some fs) => kLent (evCall env L n) 32 fs fun r => k r hq
    | _ => none := kCall_lent mode_szAutomaton
theorem kv_szAutomaton_2 {R : Type} {L n : Nat} {hq : H} {k : A → H → Option R} {id1 g1 o1 len1 : Nat} {al : Int} {rs : List (List Int)} {left : Int} : kCall env (evCall env L n) hq 32 [.agg [.d (.int .i64 al), .d (.ivs rs.length (rowsD rs)), .sl id1 g1 o1 len1], .d (.int .i64 left)] k = match box (lentA hq [.agg [.d (.int .i64 al), .d (.ivs rs.length (rowsD rs)), .sl id1 g1 o1 len1], .d (.int .i64 left)]) with
    | .mk (some fs) => kLent (evCall env L n) 32 fs fun r => k r hq
    | _ => none := kCall_lent mode_szAutomaton
theorem kv_szAutomaton_3 {R : Type} {L n : Nat} {hq : H} {k : A → H → Option R} {id1 g1 o1 len1 : Nat} {id0 g0 o0 len0 : Nat} {al : Int} {left : Int} : kCall env (evCall env L n) hq 32 [.agg [.d (.int .i64 al), .sl id0 g0 o0 len0, .sl id1 g1 o1 len1], .d (.int .i64 left)] k = match box (lentA hq [.agg [.d (.int .i64 al), .sl id0 g0 o0 len0, .sl id1 g1 o1 len1], .d (.int .i64 left)]) with
    | .mk (some fs) => kLent (evCall env L n) 32 fs fun r => k r hq
    | _ => none := kCall_lent mode_szAutomaton

/-- What a size that is not exceeded says. -/
theorem szA_small {rs : List (List Int)} {ac : List Bool} (h : ¬ szA rs ac 1048576 < 0) : rs.length ≤ 1048576 ∧ (∀ r ∈ rs, r.length ≤ 1048576) ∧ ac.length ≤ 1048576 := by
  unfold szA at h
  split at h
  · omega
  · rename_i h1
    unfold szSS at h h1
    split at h1
    · omega
    · rename_i h2
      rw [if_neg h2] at h
      have h3 := szRows_le rs (1048576 - rs.length) (by omega)
      unfold szN at h
      split at h
      · omega
      · refine ⟨by omega, fun r hr => ?_, by omega⟩
        have := szRows_all rs (1048576 - rs.length) (by omega) r hr
        omega

/-! ### what is held -/

/-- Truth values as the laws mark them. -/
def marksB : Nat → Int → List Bool
  | 0, _ => []
  | j + 1, k => decide (k.tmod 3 = 0) :: marksB j (k + 1)
def marksR : List (List Int) → Int → List (List Int)
  | [], _ => []
  | r :: rs, k => marksI r.length k :: marksR rs (k + r.length)
/-- How many numbers lie in rows. -/
def total : List (List Int) → Nat
  | [] => 0
  | r :: rs => r.length + total rs

theorem marksB_len : ∀ (j : Nat) (k : Int), (marksB j k).length = j
  | 0, _ => rfl
  | j + 1, k => by simp [marksB, marksB_len j]
theorem marksR_len : ∀ (rs : List (List Int)) (k : Int), (marksR rs k).length = rs.length
  | [], _ => rfl
  | r :: rs, k => by simp [marksR, marksR_len rs]
theorem marksR_lens : ∀ (rs : List (List Int)) (k : Int), (marksR rs k).map List.length = rs.map List.length
  | [], _ => rfl
  | r :: rs, k => by simp [marksR, marksR_lens rs, marksI_len]
theorem marksI_getD : ∀ (n : Nat) (c : Int) (i : Nat), i < n → (marksI n c).getD i 0 = c + i
  | n + 1, c, 0, _ => by simp [marksI]
  | n + 1, c, i + 1, h => by
    simp only [marksI, List.getD_cons_succ]
    rw [marksI_getD n (c + 1) i (by omega)]
    omega
theorem marksB_getD : ∀ (n : Nat) (c : Int) (i : Nat), i < n → (marksB n c).getD i false = decide ((c + i).tmod 3 = 0)
  | n + 1, c, 0, _ => by simp [marksB]
  | n + 1, c, i + 1, h => by
    simp only [marksB, List.getD_cons_succ]
    rw [marksB_getD n (c + 1) i (by omega)]
    rw [show c + 1 + (i : Int) = c + ((i + 1 : Nat) : Int) by omega]

theorem loop_heldIntS {R : Type} {L n z : Nat} {c0 : Int} (hz : z ≤ 4294967296) (hc0 : 0 ≤ c0) (hc1 : c0 ≤ 100000000000) {k : Exit → List A → H → Option R} : ∀ (i c : Int) (m : Nat) (h0 : 0 ≤ i) (hi : i ≤ z) (hm : (z : Int) - i < m) (hcc : c = c0 + i),
    kLoop env (evCall env L n) L 0 [] (true :: true :: false :: false :: true :: true :: false :: false :: false :: false :: false :: false :: false :: false :: false :: false :: false :: false :: false :: false :: false :: []) (lp_heldIntS 0) (false :: false :: true :: true :: false :: false :: true :: true :: true :: true :: true :: true :: true :: true :: true :: true :: true :: true :: true :: true :: true :: []) m (.d (.ivs z (ints (marksI z c0))) :: .d (.int .i64 c) :: .junk :: .junk :: .d (.int .i64 0) :: .d (.int .i64 i) :: .junk :: .junk :: .junk :: .junk :: .junk :: .junk :: .junk :: .junk :: .junk :: .junk :: .junk :: .junk :: .junk :: .junk :: .junk :: []) [] k
    = k (.exit 0) (.d (.ivs z (ints (marksI z c0))) :: .d (.int .i64 ((c0 + z))) :: .junk :: .junk :: .d (.int .i64 0) :: .d (.int .i64 z) :: .junk :: .junk :: .junk :: .junk :: .junk :: .junk :: .junk :: .junk :: .junk :: .junk :: .junk :: .junk :: .junk :: .junk :: .junk :: []) [] := by
  intro i c m h0 hi hm hcc
  have hml := marksI_len z c0
  obtain ⟨j, hj⟩ : ∃ j : Nat, (j : Int) = (z : Int) - i := ⟨((z : Int) - i).toNat, by omega⟩
  induction j generalizing i c m with
  | zero =>
    obtain ⟨m, rfl⟩ : ∃ q, m = q + 1 := ⟨m - 1, by omega⟩
    obtain rfl : i = z := by omega
    rw [step_heldIntS_0]
    simp only [S_heldIntS_0, Try.f135, slimF, slimL, lpOf, codeOf, Option.getD_some, slim, loops, List.length_nil, Nat.add_zero, Nat.zero_add, slimO, slimG, List.map_cons, List.map_nil, List.getElem?_cons_zero, List.getElem?_cons_succ, Option.bind_some, Bool.false_eq_true, if_false, if_true, List.length_cons, List.replicate, List.cons_append, List.nil_append, List.append_nil, Nat.reduceAdd, Nat.reduceSub, List.getD_cons_zero, List.getD_cons_succ]
    simp -implicitDefEqProofs (maxSteps := 2000000) (disch := first | assumption | (refine Shut.mk ?_; kernel_rfl) | omega | (simp only [List.getElem?_cons_zero, List.getElem?_cons_succ]; done) | (simp only [List.length_append, List.length_cons, List.length_nil, List.length_set, List.length_replicate, List.length_map, List.length_take, List.length_drop] <;> omega)) only [↓WD, ↓kAsg, ↓kRet, ↓reduceIte, ↓clash_free, ↓WDD, ↓kOpD_callv, WK, thawAt, evPick, aPut, leavesBody, outA, outS, outSs, idsA, idsL, mapA, calmAs, calmA, calmSl, calmPt, genOf, calmH, calmFrom, calmO, mapAs, maskB, isUndef, tidy, Int.reduceLT, Int.reduceLE, Int.reduceEq, Int.reduceNe, Int.reduceNeg, Int.reduceAdd, Int.reduceSub, Int.reduceMul, Int.reduceToNat, Nat.reduceAdd, Nat.reduceSub, aBuiltin, aAppend, aAppend0, aAppendV, isVec, bears, emptyArr, sliceAs, keeps, aBuildVec, aMakeVec, sliceCells, aBuildSlice, aIndexAddr, aLoad, runOf, ofCells, TY, LB, aLen, withInt, fillA, frzL, listWith, frz, frz0, deep, cellsA, setRun, okCell, List.replicate, notJunk, Nat.reduceMul, Nat.reduceLeDiff, Nat.reducePow, Nat.reduceBEq, boxIds, aResults, aResult, outAs, tupA, evNilCheck, aMove, MD, opds, evOp, asOper, one, two, evCallee, evAssign, aNew, evSlice, evField, evExtract, evFunc, pureOp, isCall, readOp, List.range', back, putBack, fuelR, closed, aStore, thawCells, place, pack, mapO, Nat.reduceEqDiff, Nat.reduceLT, maxNeed, i64_id, frzA, frzAs, memD, lentA, footC, LA, Int.lt_irrefl]
    rw [hcc]
  | succ j ih =>
    obtain ⟨m, rfl⟩ : ∃ q, m = q + 1 := ⟨m - 1, by omega⟩
    have hc : i < z := by omega
    have hk : i.toNat < z := by omega
    have hk2 : i.toNat < (marksI z c0).length := by omega
    have hg := marksI_getD z c0 i.toNat hk
    have e : c0 + (i.toNat : Int) = c := by omega
    rw [e] at hg
    rw [step_heldIntS_0]
    simp only [S_heldIntS_0, Try.f135, slimF, slimL, lpOf, codeOf, Option.getD_some, slim, loops, List.length_nil, Nat.add_zero, Nat.zero_add, slimO, slimG, List.map_cons, List.map_nil, List.getElem?_cons_zero, List.getElem?_cons_succ, Option.bind_some, Bool.false_eq_true, if_false, if_true, List.length_cons, List.replicate, List.cons_append, List.nil_append, List.append_nil, Nat.reduceAdd, Nat.reduceSub, List.getD_cons_zero, List.getD_cons_succ]
    simp -implicitDefEqProofs (maxSteps := 2000000) (disch := first | assumption | (refine Shut.mk ?_; kernel_rfl) | omega | (simp only [List.getElem?_cons_zero, List.getElem?_cons_succ]; done) | (simp only [List.length_append, List.length_cons, List.length_nil, List.length_set, List.length_replicate, List.length_map, List.length_take, List.length_drop] <;> omega)) only [↓WD, ↓kAsg, ↓kRet, ↓reduceIte, ↓clash_free, ↓WDD, ↓kOpD_callv, WK, thawAt, evPick, aPut, leavesBody, outA, outS, outSs, idsA, idsL, mapA, calmAs, calmA, calmSl, calmPt, genOf, calmH, calmFrom, calmO, mapAs, maskB, isUndef, tidy, Int.reduceLT, Int.reduceLE, Int.reduceEq, Int.reduceNe, Int.reduceNeg, Int.reduceAdd, Int.reduceSub, Int.reduceMul, Int.reduceToNat, Nat.reduceAdd, Nat.reduceSub, aBuiltin, aAppend, aAppend0, aAppendV, isVec, bears, emptyArr, sliceAs, keeps, aBuildVec, aMakeVec, sliceCells, aBuildSlice, aIndexAddr, aLoad, runOf, ofCells, TY, LB, aLen, withInt, fillA, frzL, listWith, frz, frz0, deep, cellsA, setRun, okCell, List.replicate, notJunk, Nat.reduceMul, Nat.reduceLeDiff, Nat.reducePow, Nat.reduceBEq, boxIds, aResults, aResult, outAs, tupA, evNilCheck, aMove, MD, opds, evOp, asOper, one, two, evCallee, evAssign, aNew, evSlice, evField, evExtract, evFunc, pureOp, isCall, readOp, List.range', back, putBack, fuelR, closed, aStore, thawCells, place, pack, mapO, Nat.reduceEqDiff, Nat.reduceLT, maxNeed, i64_id, frzA, frzAs, memD, lentA, footC, LA, u_ints, c_int, hc, hg, hml, ↓ih]

theorem ev_heldIntS {L n : Nat} (hn : 1 ≤ n) (z : Nat) (c : Int) (hz : z ≤ 4294967296) (hc0 : 0 ≤ c) (hc1 : c ≤ 100000000000) (hL : 2 ^ 60 ≤ L) : evCall env L n 135 [.d (.ivs z (ints (marksI z c))), .d (.int .i64 c)] [] = some (.d (.int .i64 (c + z)), []) := by
  obtain ⟨n, rfl⟩ : ∃ m, n = m + 1 := ⟨n - 1, by omega⟩
  rw [fn_heldIntS]
  simp only [S_heldIntS, Try.f135, slimF, slimL, lpOf, codeOf, Option.getD_some, slim, loops, List.length_nil, Nat.add_zero, Nat.zero_add, slimO, slimG, List.map_cons, List.map_nil, List.getElem?_cons_zero, List.getElem?_cons_succ, Option.bind_some, Bool.false_eq_true, if_false, if_true, List.length_cons, List.replicate, List.cons_append, List.nil_append, List.append_nil, Nat.reduceAdd, Nat.reduceSub, List.getD_cons_zero, List.getD_cons_succ]
  simp -implicitDefEqProofs (maxSteps := 2000000) (disch := first | assumption | (refine Shut.mk ?_; kernel_rfl) | omega | (simp only [List.getElem?_cons_zero, List.getElem?_cons_succ]; done) | (simp only [List.length_append, List.length_cons, List.length_nil, List.length_set, List.length_replicate, List.length_map, List.length_take, List.length_drop] <;> omega)) only [↓WD, ↓kAsg, ↓kRet, ↓reduceIte, ↓clash_free, ↓WDD, ↓kOpD_callv, WK, thawAt, evPick, aPut, leavesBody, outA, outS, outSs, idsA, idsL, mapA, calmAs, calmA, calmSl, calmPt, genOf, calmH, calmFrom, calmO, mapAs, maskB, isUndef, tidy, Int.reduceLT, Int.reduceLE, Int.reduceEq, Int.reduceNe, Int.reduceNeg, Int.reduceAdd, Int.reduceSub, Int.reduceMul, Int.reduceToNat, Nat.reduceAdd, Nat.reduceSub, aBuiltin, aAppend, aAppend0, aAppendV, isVec, bears, emptyArr, sliceAs, keeps, aBuildVec, aMakeVec, sliceCells, aBuildSlice, aIndexAddr, aLoad, runOf, ofCells, TY, LB, aLen, withInt, fillA, frzL, listWith, frz, frz0, deep, cellsA, setRun, okCell, List.replicate, notJunk, Nat.reduceMul, Nat.reduceLeDiff, Nat.reducePow, Nat.reduceBEq, boxIds, aResults, aResult, outAs, tupA, evNilCheck, aMove, MD, opds, evOp, asOper, one, two, evCallee, evAssign, aNew, evSlice, evField, evExtract, evFunc, pureOp, isCall, readOp, List.range', back, putBack, fuelR, closed, aStore, thawCells, place, pack, mapO, Nat.reduceEqDiff, Nat.reduceLT, maxNeed, i64_id, frzA, frzAs, memD, lentA, footC, ↓loop_heldIntS, LA]
theorem kc_heldIntS {R : Type} {L n : Nat} {hq : H} {k : A → H → Option R} (hn : 1 ≤ n) (z : Nat) (c : Int) (hz : z ≤ 4294967296) (hc0 : 0 ≤ c) (hc1 : c ≤ 100000000000) (hL : 2 ^ 60 ≤ L) : kCall env (evCall env L n) hq 135 [.d (.ivs z (ints (marksI z c))), .d (.int .i64 c)] k = k (.d (.int .i64 (c + z))) hq :=
  kCall_still rfl (ev_heldIntS hn z c hz hc0 hc1 hL) rfl (.inl rfl)
theorem kl_heldIntS {R : Type} {L n : Nat} {k : A → Option R} (hn : 1 ≤ n) (z : Nat) (c : Int) (hz : z ≤ 4294967296) (hc0 : 0 ≤ c) (hc1 : c ≤ 100000000000) (hL : 2 ^ 60 ≤ L) : kLent (evCall env L n) 135 [.d (.ivs z (ints (marksI z c))), .d (.int .i64 c)] k = k (.d (.int .i64 (c + z))) :=
  kLent_ev (ev_heldIntS hn z c hz hc0 hc1 hL) rfl
theorem kv_heldIntS_1 {R : Type} {L n : Nat} {hq : H} {k : A → H → Option R} {id0 g0 o0 len0 : Nat} {c : Int} : kCall env (evCall env L n) hq 135 [.sl id0 g0 o0 len0, .d (.int .i64 c)] k = match box (lentA hq [.sl id0 g0 o0 len0, .d (.int .i64 c)]) with
    | .mk (some fs) => kLent (evCall env L n) 135 fs fun r => k r hq
    | _ => none := kCall_lent mode_heldIntS

theorem loop_heldBoolS {R : Type} {L n z : Nat} {c0 : Int} (hz : z ≤ 4294967296) (hc0 : 0 ≤ c0) (hc1 : c0 ≤ 100000000000) {k : Exit → List A → H → Option R} : ∀ (i c : Int) (m : Nat) (h0 : 0 ≤ i) (hi : i ≤ z) (hm : (z : Int) - i < m) (hcc : c = c0 + i),
    kLoop env (evCall env L n) L 0 [] (true :: true :: false :: false :: true :: true :: false :: false :: false :: false :: false :: false :: false :: false :: false :: false :: false :: false :: false :: false :: false :: false :: false :: []) (lp_heldBoolS 0) (false :: false :: true :: true :: false :: false :: true :: true :: true :: true :: true :: true :: true :: true :: true :: true :: true :: true :: true :: true :: true :: true :: true :: []) m (.d (.ivs z (bools (marksB z c0))) :: .d (.int .i64 c) :: .junk :: .junk :: .d (.int .i64 0) :: .d (.int .i64 i) :: .junk :: .junk :: .junk :: .junk :: .junk :: .junk :: .junk :: .junk :: .junk :: .junk :: .junk :: .junk :: .junk :: .junk :: .junk :: .junk :: .junk :: []) [] k
    = k (.exit 0) (.d (.ivs z (bools (marksB z c0))) :: .d (.int .i64 ((c0 + z))) :: .junk :: .junk :: .d (.int .i64 0) :: .d (.int .i64 z) :: .junk :: .junk :: .junk :: .junk :: .junk :: .junk :: .junk :: .junk :: .junk :: .junk :: .junk :: .junk :: .junk :: .junk :: .junk :: .junk :: .junk :: []) [] := by
  intro i c m h0 hi hm hcc
  have hml := marksB_len z c0
  obtain ⟨j, hj⟩ : ∃ j : Nat, (j : Int) = (z : Int) - i := ⟨((z : Int) - i).toNat, by omega⟩
  induction j generalizing i c m with
  | zero =>
    obtain ⟨m, rfl⟩ : ∃ q, m = q + 1 := ⟨m - 1, by omega⟩
    obtain rfl : i = z := by omega
    rw [step_heldBoolS_0]
    simp only [S_heldBoolS_0, Try.f103, slimF, slimL, lpOf, codeOf, Option.getD_some, slim, loops, List.length_nil, Nat.add_zero, Nat.zero_add, slimO, slimG, List.map_cons, List.map_nil, List.getElem?_cons_zero, List.getElem?_cons_succ, Option.bind_some, Bool.false_eq_true, if_false, if_true, List.length_cons, List.replicate, List.cons_append, List.nil_append, List.append_nil, Nat.reduceAdd, Nat.reduceSub, List.getD_cons_zero, List.getD_cons_succ]
    simp -implicitDefEqProofs (maxSteps := 2000000) (disch := first | assumption | (refine Shut.mk ?_; kernel_rfl) | omega | (simp only [List.getElem?_cons_zero, List.getElem?_cons_succ]; done) | (simp only [List.length_append, List.length_cons, List.length_nil, List.length_set, List.length_replicate, List.length_map, List.length_take, List.length_drop] <;> omega)) only [↓WD, ↓kAsg, ↓kRet, ↓reduceIte, ↓clash_free, ↓WDD, ↓kOpD_callv, WK, thawAt, evPick, aPut, leavesBody, outA, outS, outSs, idsA, idsL, mapA, calmAs, calmA, calmSl, calmPt, genOf, calmH, calmFrom, calmO, mapAs, maskB, isUndef, tidy, Int.reduceLT, Int.reduceLE, Int.reduceEq, Int.reduceNe, Int.reduceNeg, Int.reduceAdd, Int.reduceSub, Int.reduceMul, Int.reduceToNat, Nat.reduceAdd, Nat.reduceSub, aBuiltin, aAppend, aAppend0, aAppendV, isVec, bears, emptyArr, sliceAs, keeps, aBuildVec, aMakeVec, sliceCells, aBuildSlice, aIndexAddr, aLoad, runOf, ofCells, TY, LB, aLen, withInt, fillA, frzL, listWith, frz, frz0, deep, cellsA, setRun, okCell, List.replicate, notJunk, Nat.reduceMul, Nat.reduceLeDiff, Nat.reducePow, Nat.reduceBEq, boxIds, aResults, aResult, outAs, tupA, evNilCheck, aMove, MD, opds, evOp, asOper, one, two, evCallee, evAssign, aNew, evSlice, evField, evExtract, evFunc, pureOp, isCall, readOp, List.range', back, putBack, fuelR, closed, aStore, thawCells, place, pack, mapO, Nat.reduceEqDiff, Nat.reduceLT, maxNeed, i64_id, frzA, frzAs, memD, lentA, footC, LA, Int.lt_irrefl]
    rw [hcc]
  | succ j ih =>
    obtain ⟨m, rfl⟩ : ∃ q, m = q + 1 := ⟨m - 1, by omega⟩
    have hc : i < z := by omega
    have hk : i.toNat < z := by omega
    have hk2 : i.toNat < (marksB z c0).length := by omega
    have hg := marksB_getD z c0 i.toNat hk
    have e : c0 + (i.toNat : Int) = c := by omega
    rw [e] at hg
    rw [step_heldBoolS_0]
    simp only [S_heldBoolS_0, Try.f103, slimF, slimL, lpOf, codeOf, Option.getD_some, slim, loops, List.length_nil, Nat.add_zero, Nat.zero_add, slimO, slimG, List.map_cons, List.map_nil, List.getElem?_cons_zero, List.getElem?_cons_succ, Option.bind_some, Bool.false_eq_true, if_false, if_true, List.length_cons, List.replicate, List.cons_append, List.nil_append, List.append_nil, Nat.reduceAdd, Nat.reduceSub, List.getD_cons_zero, List.getD_cons_succ]
    simp -implicitDefEqProofs (maxSteps := 2000000) (disch := first | assumption | (refine Shut.mk ?_; kernel_rfl) | omega | (simp only [List.getElem?_cons_zero, List.getElem?_cons_succ]; done) | (simp only [List.length_append, List.length_cons, List.length_nil, List.length_set, List.length_replicate, List.length_map, List.length_take, List.length_drop] <;> omega)) only [↓WD, ↓kAsg, ↓kRet, ↓reduceIte, ↓clash_free, ↓WDD, ↓kOpD_callv, WK, thawAt, evPick, aPut, leavesBody, outA, outS, outSs, idsA, idsL, mapA, calmAs, calmA, calmSl, calmPt, genOf, calmH, calmFrom, calmO, mapAs, maskB, isUndef, tidy, Int.reduceLT, Int.reduceLE, Int.reduceEq, Int.reduceNe, Int.reduceNeg, Int.reduceAdd, Int.reduceSub, Int.reduceMul, Int.reduceToNat, Nat.reduceAdd, Nat.reduceSub, aBuiltin, aAppend, aAppend0, aAppendV, isVec, bears, emptyArr, sliceAs, keeps, aBuildVec, aMakeVec, sliceCells, aBuildSlice, aIndexAddr, aLoad, runOf, ofCells, TY, LB, aLen, withInt, fillA, frzL, listWith, frz, frz0, deep, cellsA, setRun, okCell, List.replicate, notJunk, Nat.reduceMul, Nat.reduceLeDiff, Nat.reducePow, Nat.reduceBEq, boxIds, aResults, aResult, outAs, tupA, evNilCheck, aMove, MD, opds, evOp, asOper, one, two, evCallee, evAssign, aNew, evSlice, evField, evExtract, evFunc, pureOp, isCall, readOp, List.range', back, putBack, fuelR, closed, aStore, thawCells, place, pack, mapO, Nat.reduceEqDiff, Nat.reduceLT, maxNeed, i64_id, frzA, frzAs, memD, lentA, footC, LA, u_bools, c_bool, evBin_neqB, evBin_eqlB, beq_self_eq_true, hc, hg, hml, ↓ih]

theorem ev_heldBoolS {L n : Nat} (hn : 1 ≤ n) (z : Nat) (c : Int) (hz : z ≤ 4294967296) (hc0 : 0 ≤ c) (hc1 : c ≤ 100000000000) (hL : 2 ^ 60 ≤ L) : evCall env L n 103 [.d (.ivs z (bools (marksB z c))), .d (.int .i64 c)] [] = some (.d (.int .i64 (c + z)), []) := by
  obtain ⟨n, rfl⟩ : ∃ m, n = m + 1 := ⟨n - 1, by omega⟩
  rw [fn_heldBoolS]
  simp only [S_heldBoolS, Try.f103, slimF, slimL, lpOf, codeOf, Option.getD_some, slim, loops, List.length_nil, Nat.add_zero, Nat.zero_add, slimO, slimG, List.map_cons, List.map_nil, List.getElem?_cons_zero, List.getElem?_cons_succ, Option.bind_some, Bool.false_eq_true, if_false, if_true, List.length_cons, List.replicate, List.cons_append, List.nil_append, List.append_nil, Nat.reduceAdd, Nat.reduceSub, List.getD_cons_zero, List.getD_cons_succ]
  simp -implicitDefEqProofs (maxSteps := 2000000) (disch := first | assumption | (refine Shut.mk ?_; kernel_rfl) | omega | (simp only [List.getElem?_cons_zero, List.getElem?_cons_succ]; done) | (simp only [List.length_append, List.length_cons, List.length_nil, List.length_set, List.length_replicate, List.length_map, List.length_take, List.length_drop] <;> omega)) only [↓WD, ↓kAsg, ↓kRet, ↓reduceIte, ↓clash_free, ↓WDD, ↓kOpD_callv, WK, thawAt, evPick, aPut, leavesBody, outA, outS, outSs, idsA, idsL, mapA, calmAs, calmA, calmSl, calmPt, genOf, calmH, calmFrom, calmO, mapAs, maskB, isUndef, tidy, Int.reduceLT, Int.reduceLE, Int.reduceEq, Int.reduceNe, Int.reduceNeg, Int.reduceAdd, Int.reduceSub, Int.reduceMul, Int.reduceToNat, Nat.reduceAdd, Nat.reduceSub, aBuiltin, aAppend, aAppend0, aAppendV, isVec, bears, emptyArr, sliceAs, keeps, aBuildVec, aMakeVec, sliceCells, aBuildSlice, aIndexAddr, aLoad, runOf, ofCells, TY, LB, aLen, withInt, fillA, frzL, listWith, frz, frz0, deep, cellsA, setRun, okCell, List.replicate, notJunk, Nat.reduceMul, Nat.reduceLeDiff, Nat.reducePow, Nat.reduceBEq, boxIds, aResults, aResult, outAs, tupA, evNilCheck, aMove, MD, opds, evOp, asOper, one, two, evCallee, evAssign, aNew, evSlice, evField, evExtract, evFunc, pureOp, isCall, readOp, List.range', back, putBack, fuelR, closed, aStore, thawCells, place, pack, mapO, Nat.reduceEqDiff, Nat.reduceLT, maxNeed, i64_id, frzA, frzAs, memD, lentA, footC, ↓loop_heldBoolS, LA]
theorem kc_heldBoolS {R : Type} {L n : Nat} {hq : H} {k : A → H → Option R} (hn : 1 ≤ n) (z : Nat) (c : Int) (hz : z ≤ 4294967296) (hc0 : 0 ≤ c) (hc1 : c ≤ 100000000000) (hL : 2 ^ 60 ≤ L) : kCall env (evCall env L n) hq 103 [.d (.ivs z (bools (marksB z c))), .d (.int .i64 c)] k = k (.d (.int .i64 (c + z))) hq :=
  kCall_still rfl (ev_heldBoolS hn z c hz hc0 hc1 hL) rfl (.inl rfl)
theorem kl_heldBoolS {R : Type} {L n : Nat} {k : A → Option R} (hn : 1 ≤ n) (z : Nat) (c : Int) (hz : z ≤ 4294967296) (hc0 : 0 ≤ c) (hc1 : c ≤ 100000000000) (hL : 2 ^ 60 ≤ L) : kLent (evCall env L n) 103 [.d (.ivs z (bools (marksB z c))), .d (.int .i64 c)] k = k (.d (.int .i64 (c + z))) :=
  kLent_ev (ev_heldBoolS hn z c hz hc0 hc1 hL) rfl
theorem kv_heldBoolS_1 {R : Type} {L n : Nat} {hq : H} {k : A → H → Option R} {id0 g0 o0 len0 : Nat} {c : Int} : kCall env (evCall env L n) hq 103 [.sl id0 g0 o0 len0, .d (.int .i64 c)] k = match box (lentA hq [.sl id0 g0 o0 len0, .d (.int .i64 c)]) with
    | .mk (some fs) => kLent (evCall env L n) 103 fs fun r => k r hq
    | _ => none := kCall_lent mode_heldBoolS

theorem marksR_at : ∀ (rs : List (List Int)) (c : Int) (i : Nat), i < rs.length → (marksR rs c).getD i [] = marksI (rs.getD i []).length (c + total (rs.take i))
  | r :: rs, c, 0, _ => by simp [marksR, total]
  | r :: rs, c, i + 1, h => by
    simp only [marksR, List.getD_cons_succ, List.take_succ_cons, total]
    rw [marksR_at rs _ i (by simpa using h)]
    congr 1
    omega

theorem total_take : ∀ (rs : List (List Int)) (i : Nat), i < rs.length → total (rs.take (i + 1)) = total (rs.take i) + (rs.getD i []).length
  | r :: rs, 0, _ => by simp [total]
  | r :: rs, i + 1, h => by
    simp only [List.take_succ_cons, total, List.getD_cons_succ]
    rw [total_take rs i (by simpa using h)]
    omega
theorem total_le : ∀ (rs : List (List Int)) (i : Nat), total (rs.take i) ≤ total rs
  | [], i => by simp [total]
  | r :: rs, 0 => by simp [total]
  | r :: rs, i + 1 => by
    simp only [List.take_succ_cons, total]
    have := total_le rs i
    omega

theorem loop_heldIntSS {R : Type} {L n : Nat} (hn : 2 ≤ n) (hL : 2 ^ 60 ≤ L) {rs : List (List Int)} (hs : rowsShort rs) {c0 : Int} (hc0 : 0 ≤ c0) (hc1 : c0 + total rs ≤ 100000000000) {k : Exit → List A → H → Option R} : ∀ (i c : Int) (m : Nat) (h0 : 0 ≤ i) (hi : i ≤ rs.length) (hm : (rs.length : Int) - i < m) (hcc : c = c0 + total (rs.take i.toNat)),
    kLoop env (evCall env L n) L 0 [] (true :: true :: false :: false :: true :: true :: false :: false :: false :: false :: false :: false :: false :: false :: false :: false :: false :: false :: false :: false :: false :: []) (lp_heldIntSS 0) (false :: false :: true :: true :: false :: false :: true :: true :: true :: true :: true :: true :: true :: true :: true :: true :: true :: true :: true :: true :: true :: []) m (.d (.ivs rs.length (rowsD (marksR rs c0))) :: .d (.int .i64 c) :: .junk :: .junk :: .d (.int .i64 0) :: .d (.int .i64 i) :: .junk :: .junk :: .junk :: .junk :: .junk :: .junk :: .junk :: .junk :: .junk :: .junk :: .junk :: .junk :: .junk :: .junk :: .junk :: []) [] k
    = k (.exit 0) (.d (.ivs rs.length (rowsD (marksR rs c0))) :: .d (.int .i64 ((c0 + total rs))) :: .junk :: .junk :: .d (.int .i64 0) :: .d (.int .i64 (rs.length)) :: .junk :: .junk :: .junk :: .junk :: .junk :: .junk :: .junk :: .junk :: .junk :: .junk :: .junk :: .junk :: .junk :: .junk :: .junk :: []) [] := by
  intro i c m h0 hi hm hcc
  have hml := marksR_len rs c0
  have hrl := hs.1
  obtain ⟨j, hj⟩ : ∃ j : Nat, (j : Int) = (rs.length : Int) - i := ⟨((rs.length : Int) - i).toNat, by omega⟩
  induction j generalizing i c m with
  | zero =>
    obtain ⟨m, rfl⟩ : ∃ q, m = q + 1 := ⟨m - 1, by omega⟩
    obtain rfl : i = rs.length := by omega
    rw [step_heldIntSS_0]
    simp only [S_heldIntSS_0, Try.f102, slimF, slimL, lpOf, codeOf, Option.getD_some, slim, loops, List.length_nil, Nat.add_zero, Nat.zero_add, slimO, slimG, List.map_cons, List.map_nil, List.getElem?_cons_zero, List.getElem?_cons_succ, Option.bind_some, Bool.false_eq_true, if_false, if_true, List.length_cons, List.replicate, List.cons_append, List.nil_append, List.append_nil, Nat.reduceAdd, Nat.reduceSub, List.getD_cons_zero, List.getD_cons_succ]
    simp -implicitDefEqProofs (maxSteps := 2000000) (disch := first | assumption | (refine Shut.mk ?_; kernel_rfl) | omega | (simp only [List.getElem?_cons_zero, List.getElem?_cons_succ]; done) | (simp only [List.length_append, List.length_cons, List.length_nil, List.length_set, List.length_replicate, List.length_map, List.length_take, List.length_drop] <;> omega)) only [↓WD, ↓kAsg, ↓kRet, ↓reduceIte, ↓clash_free, ↓WDD, ↓kOpD_callv, WK, thawAt, evPick, aPut, leavesBody, outA, outS, outSs, idsA, idsL, mapA, calmAs, calmA, calmSl, calmPt, genOf, calmH, calmFrom, calmO, mapAs, maskB, isUndef, tidy, Int.reduceLT, Int.reduceLE, Int.reduceEq, Int.reduceNe, Int.reduceNeg, Int.reduceAdd, Int.reduceSub, Int.reduceMul, Int.reduceToNat, Nat.reduceAdd, Nat.reduceSub, aBuiltin, aAppend, aAppend0, aAppendV, isVec, bears, emptyArr, sliceAs, keeps, aBuildVec, aMakeVec, sliceCells, aBuildSlice, aIndexAddr, aLoad, runOf, ofCells, TY, LB, aLen, withInt, fillA, frzL, listWith, frz, frz0, deep, cellsA, setRun, okCell, List.replicate, notJunk, Nat.reduceMul, Nat.reduceLeDiff, Nat.reducePow, Nat.reduceBEq, boxIds, aResults, aResult, outAs, tupA, evNilCheck, aMove, MD, opds, evOp, asOper, one, two, evCallee, evAssign, aNew, evSlice, evField, evExtract, evFunc, pureOp, isCall, readOp, List.range', back, putBack, fuelR, closed, aStore, thawCells, place, pack, mapO, Nat.reduceEqDiff, Nat.reduceLT, maxNeed, i64_id, frzA, frzAs, memD, lentA, footC, ↓kc_heldIntS, ↓kl_heldIntS, ↓kv_heldIntS_1, LA, Int.lt_irrefl]
    rw [hcc, Int.toNat_natCast, List.take_length]
  | succ j ih =>
    obtain ⟨m, rfl⟩ : ∃ q, m = q + 1 := ⟨m - 1, by omega⟩
    have hc : i < rs.length := by omega
    have hk : i.toNat < rs.length := by omega
    have hk2 : i.toNat < (marksR rs c0).length := by omega
    have hrow := short_at hs hk
    have hg := marksR_at rs c0 i.toNat hk
    rw [← hcc] at hg
    have e1 : (i + 1).toNat = i.toNat + 1 := by omega
    have e2 := total_take rs i.toNat hk
    have e3 := total_le rs i.toNat
    have hcp : 0 ≤ c := by omega
    have hcq : c ≤ 100000000000 := by omega
    have hcn : ¬ c + ((rs.getD i.toNat []).length : Int) < 0 := by omega
    have hci : c + ((rs.getD i.toNat []).length : Int) = c0 + total (rs.take (i + 1).toNat) := by rw [e1, e2]; omega
    rw [step_heldIntSS_0]
    simp only [S_heldIntSS_0, Try.f102, slimF, slimL, lpOf, codeOf, Option.getD_some, slim, loops, List.length_nil, Nat.add_zero, Nat.zero_add, slimO, slimG, List.map_cons, List.map_nil, List.getElem?_cons_zero, List.getElem?_cons_succ, Option.bind_some, Bool.false_eq_true, if_false, if_true, List.length_cons, List.replicate, List.cons_append, List.nil_append, List.append_nil, Nat.reduceAdd, Nat.reduceSub, List.getD_cons_zero, List.getD_cons_succ]
    simp -implicitDefEqProofs (maxSteps := 2000000) (disch := first | assumption | (refine Shut.mk ?_; kernel_rfl) | omega | (simp only [List.getElem?_cons_zero, List.getElem?_cons_succ]; done) | (simp only [List.length_append, List.length_cons, List.length_nil, List.length_set, List.length_replicate, List.length_map, List.length_take, List.length_drop] <;> omega)) only [↓WD, ↓kAsg, ↓kRet, ↓reduceIte, ↓clash_free, ↓WDD, ↓kOpD_callv, WK, thawAt, evPick, aPut, leavesBody, outA, outS, outSs, idsA, idsL, mapA, calmAs, calmA, calmSl, calmPt, genOf, calmH, calmFrom, calmO, mapAs, maskB, isUndef, tidy, Int.reduceLT, Int.reduceLE, Int.reduceEq, Int.reduceNe, Int.reduceNeg, Int.reduceAdd, Int.reduceSub, Int.reduceMul, Int.reduceToNat, Nat.reduceAdd, Nat.reduceSub, aBuiltin, aAppend, aAppend0, aAppendV, isVec, bears, emptyArr, sliceAs, keeps, aBuildVec, aMakeVec, sliceCells, aBuildSlice, aIndexAddr, aLoad, runOf, ofCells, TY, LB, aLen, withInt, fillA, frzL, listWith, frz, frz0, deep, cellsA, setRun, okCell, List.replicate, notJunk, Nat.reduceMul, Nat.reduceLeDiff, Nat.reducePow, Nat.reduceBEq, boxIds, aResults, aResult, outAs, tupA, evNilCheck, aMove, MD, opds, evOp, asOper, one, two, evCallee, evAssign, aNew, evSlice, evField, evExtract, evFunc, pureOp, isCall, readOp, List.range', back, putBack, fuelR, closed, aStore, thawCells, place, pack, mapO, Nat.reduceEqDiff, Nat.reduceLT, maxNeed, i64_id, frzA, frzAs, memD, lentA, footC, ↓kc_heldIntS, ↓kl_heldIntS, ↓kv_heldIntS_1, LA, u_intss, c_ints, hc, hg, hml, marksI_len, hcn, ↓ih]

theorem ev_heldIntSS {L n : Nat} (hn : 3 ≤ n) (rs : List (List Int)) (c : Int) (hs : rowsShort rs) (hc0 : 0 ≤ c) (hc1 : c + total rs ≤ 100000000000) (hL : 2 ^ 60 ≤ L) : evCall env L n 102 [.d (.ivs rs.length (rowsD (marksR rs c))), .d (.int .i64 c)] [] = some (.d (.int .i64 (c + total rs)), []) := by
  have hrl := hs.1
  have hml := marksR_len rs c
  have et : c = c + ((total (rs.take (0 : Int).toNat) : Nat) : Int) := by simp [total]
  obtain ⟨n, rfl⟩ : ∃ m, n = m + 1 := ⟨n - 1, by omega⟩
  rw [fn_heldIntSS]
  simp only [S_heldIntSS, Try.f102, slimF, slimL, lpOf, codeOf, Option.getD_some, slim, loops, List.length_nil, Nat.add_zero, Nat.zero_add, slimO, slimG, List.map_cons, List.map_nil, List.getElem?_cons_zero, List.getElem?_cons_succ, Option.bind_some, Bool.false_eq_true, if_false, if_true, List.length_cons, List.replicate, List.cons_append, List.nil_append, List.append_nil, Nat.reduceAdd, Nat.reduceSub, List.getD_cons_zero, List.getD_cons_succ]
  simp -implicitDefEqProofs (maxSteps := 2000000) (disch := first | assumption | (refine Shut.mk ?_; kernel_rfl) | omega | (simp only [List.getElem?_cons_zero, List.getElem?_cons_succ]; done) | (simp only [List.length_append, List.length_cons, List.length_nil, List.length_set, List.length_replicate, List.length_map, List.length_take, List.length_drop] <;> omega)) only [↓WD, ↓kAsg, ↓kRet, ↓reduceIte, ↓clash_free, ↓WDD, ↓kOpD_callv, WK, thawAt, evPick, aPut, leavesBody, outA, outS, outSs, idsA, idsL, mapA, calmAs, calmA, calmSl, calmPt, genOf, calmH, calmFrom, calmO, mapAs, maskB, isUndef, tidy, Int.reduceLT, Int.reduceLE, Int.reduceEq, Int.reduceNe, Int.reduceNeg, Int.reduceAdd, Int.reduceSub, Int.reduceMul, Int.reduceToNat, Nat.reduceAdd, Nat.reduceSub, aBuiltin, aAppend, aAppend0, aAppendV, isVec, bears, emptyArr, sliceAs, keeps, aBuildVec, aMakeVec, sliceCells, aBuildSlice, aIndexAddr, aLoad, runOf, ofCells, TY, LB, aLen, withInt, fillA, frzL, listWith, frz, frz0, deep, cellsA, setRun, okCell, List.replicate, notJunk, Nat.reduceMul, Nat.reduceLeDiff, Nat.reducePow, Nat.reduceBEq, boxIds, aResults, aResult, outAs, tupA, evNilCheck, aMove, MD, opds, evOp, asOper, one, two, evCallee, evAssign, aNew, evSlice, evField, evExtract, evFunc, pureOp, isCall, readOp, List.range', back, putBack, fuelR, closed, aStore, thawCells, place, pack, mapO, Nat.reduceEqDiff, Nat.reduceLT, maxNeed, i64_id, frzA, frzAs, memD, lentA, footC, ↓kc_heldIntS, ↓kl_heldIntS, ↓kv_heldIntS_1, ↓loop_heldIntSS, LA, hml]
theorem kc_heldIntSS {R : Type} {L n : Nat} {hq : H} {k : A → H → Option R} (hn : 3 ≤ n) (rs : List (List Int)) (c : Int) (hs : rowsShort rs) (hc0 : 0 ≤ c) (hc1 : c + total rs ≤ 100000000000) (hL : 2 ^ 60 ≤ L) : kCall env (evCall env L n) hq 102 [.d (.ivs rs.length (rowsD (marksR rs c))), .d (.int .i64 c)] k = k (.d (.int .i64 (c + total rs))) hq :=
  kCall_still rfl (ev_heldIntSS hn rs c hs hc0 hc1 hL) rfl (.inl rfl)
theorem kl_heldIntSS {R : Type} {L n : Nat} {k : A → Option R} (hn : 3 ≤ n) (rs : List (List Int)) (c : Int) (hs : rowsShort rs) (hc0 : 0 ≤ c) (hc1 : c + total rs ≤ 100000000000) (hL : 2 ^ 60 ≤ L) : kLent (evCall env L n) 102 [.d (.ivs rs.length (rowsD (marksR rs c))), .d (.int .i64 c)] k = k (.d (.int .i64 (c + total rs))) :=
  kLent_ev (ev_heldIntSS hn rs c hs hc0 hc1 hL) rfl
theorem kv_heldIntSS_1 {R : Type} {L n : Nat} {hq : H} {k : A → H → Option R} {id0 g0 o0 len0 : Nat} {c : Int} : kCall env (evCall env L n) hq 102 [.sl id0 g0 o0 len0, .d (.int .i64 c)] k = match box (lentA hq [.sl id0 g0 o0 len0, .d (.int .i64 c)]) with
    | .mk (some fs) => kLent (evCall env L n) 102 fs fun r => k r hq
    | _ => none := kCall_lent mode_heldIntSS

theorem ev_heldAutomaton {L n : Nat} (hn : 4 ≤ n) (al : Int) (rs : List (List Int)) (z : Nat) (c : Int) (hs : rowsShort rs) (hz : z ≤ 4294967296) (hc0 : 0 ≤ c) (hc1 : c + total rs ≤ 100000000000) (hL : 2 ^ 60 ≤ L) : evCall env L n 38 [.agg [.d (.int .i64 al), .d (.ivs rs.length (rowsD (marksR rs c))), .d (.ivs z (bools (marksB z (c + total rs))))], .d (.int .i64 c)] [] = some (.d (.int .i64 (c + total rs + z)), []) := by
  have h2 : ¬ c + (total rs : Int) < 0 := by omega
  have h3 : ¬ c + (total rs : Int) + z < 0 := by omega
  have h4 : 0 ≤ c + (total rs : Int) := by omega
  obtain ⟨n, rfl⟩ : ∃ m, n = m + 1 := ⟨n - 1, by omega⟩
  rw [fn_heldAutomaton]
  simp only [S_heldAutomaton, Try.f38, slimF, slimL, lpOf, codeOf, Option.getD_some, slim, loops, List.length_nil, Nat.add_zero, Nat.zero_add, slimO, slimG, List.map_cons, List.map_nil, List.getElem?_cons_zero, List.getElem?_cons_succ, Option.bind_some, Bool.false_eq_true, if_false, if_true, List.length_cons, List.replicate, List.cons_append, List.nil_append, List.append_nil, Nat.reduceAdd, Nat.reduceSub, List.getD_cons_zero, List.getD_cons_succ]
  simp -implicitDefEqProofs (maxSteps := 2000000) (disch := first | assumption | (refine Shut.mk ?_; kernel_rfl) | omega | (simp only [List.getElem?_cons_zero, List.getElem?_cons_succ]; done) | (simp only [List.length_append, List.length_cons, List.length_nil, List.length_set, List.length_replicate, List.length_map, List.length_take, List.length_drop] <;> omega)) only [↓WD, ↓kAsg, ↓kRet, ↓reduceIte, ↓clash_free, ↓WDD, ↓kOpD_callv, WK, thawAt, evPick, aPut, leavesBody, outA, outS, outSs, idsA, idsL, mapA, calmAs, calmA, calmSl, calmPt, genOf, calmH, calmFrom, calmO, mapAs, maskB, isUndef, tidy, Int.reduceLT, Int.reduceLE, Int.reduceEq, Int.reduceNe, Int.reduceNeg, Int.reduceAdd, Int.reduceSub, Int.reduceMul, Int.reduceToNat, Nat.reduceAdd, Nat.reduceSub, aBuiltin, aAppend, aAppend0, aAppendV, isVec, bears, emptyArr, sliceAs, keeps, aBuildVec, aMakeVec, sliceCells, aBuildSlice, aIndexAddr, aLoad, runOf, ofCells, TY, LB, aLen, withInt, fillA, frzL, listWith, frz, frz0, deep, cellsA, setRun, okCell, List.replicate, notJunk, Nat.reduceMul, Nat.reduceLeDiff, Nat.reducePow, Nat.reduceBEq, boxIds, aResults, aResult, outAs, tupA, evNilCheck, aMove, MD, opds, evOp, asOper, one, two, evCallee, evAssign, aNew, evSlice, evField, evExtract, evFunc, pureOp, isCall, readOp, List.range', back, putBack, fuelR, closed, aStore, thawCells, place, pack, mapO, Nat.reduceEqDiff, Nat.reduceLT, maxNeed, i64_id, frzA, frzAs, memD, lentA, footC, ↓kc_heldIntSS, ↓kc_heldBoolS, ↓kl_heldIntSS, ↓kl_heldBoolS, ↓kv_heldIntSS_1, ↓kv_heldBoolS_1, LA, h2, h3]
theorem kc_heldAutomaton {R : Type} {L n : Nat} {hq : H} {k : A → H → Option R} (hn : 4 ≤ n) (al : Int) (rs : List (List Int)) (z : Nat) (c : Int) (hs : rowsShort rs) (hz : z ≤ 4294967296) (hc0 : 0 ≤ c) (hc1 : c + total rs ≤ 100000000000) (hL : 2 ^ 60 ≤ L) : kCall env (evCall env L n) hq 38 [.agg [.d (.int .i64 al), .d (.ivs rs.length (rowsD (marksR rs c))), .d (.ivs z (bools (marksB z (c + total rs))))], .d (.int .i64 c)] k = k (.d (.int .i64 (c + total rs + z))) hq :=
  kCall_still rfl (ev_heldAutomaton hn al rs z c hs hz hc0 hc1 hL) rfl (.inl rfl)
theorem kl_heldAutomaton {R : Type} {L n : Nat} {k : A → Option R} (hn : 4 ≤ n) (al : Int) (rs : List (List Int)) (z : Nat) (c : Int) (hs : rowsShort rs) (hz : z ≤ 4294967296) (hc0 : 0 ≤ c) (hc1 : c + total rs ≤ 100000000000) (hL : 2 ^ 60 ≤ L) : kLent (evCall env L n) 38 [.agg [.d (.int .i64 al), .d (.ivs rs.length (rowsD (marksR rs c))), .d (.ivs z (bools (marksB z (c + total rs))))], .d (.int .i64 c)] k = k (.d (.int .i64 (c + total rs + z))) :=
  kLent_ev (ev_heldAutomaton hn al rs z c hs hz hc0 hc1 hL) rfl
theorem kv_heldAutomaton_1 {R : Type} {L n : Nat} {hq : H} {k : A → H → Option R} {id0 g0 o0 len0 : Nat} {al : Int} {rs : List (List Int)} {z : Nat} {c : Int} : kCall env (evCall env L n) hq 38 [.agg [.d (.int .i64 al), .sl id0 g0 o0 len0, .d (.ivs z (bools (marksB z (c + total rs))))], .d (.int .i64 c)] k = match box (lentA hq [.agg [.d (.int .i64 al), .sl id0 g0 o0 len0, .d (.ivs z (bools (marksB z (c + total rs))))], .d (.int .i64 c)]) with
    | .mk (some fs) => kLent (evCall env L n) 38 fs fun r => k r hq
    | _ => none := kCall_lent mode_heldAutomaton
theorem kv_heldAutomaton_2 {R : Type} {L n : Nat} {hq : H} {k : A → H → Option R} {id1 g1 o1 len1 : Nat} {al : Int} {rs : List (List Int)} {c : Int} : kCall env (evCall env L n) hq 38 [.agg [.d (.int .i64 al), .d (.ivs rs.length (rowsD (marksR rs c))), .sl id1 g1 o1 len1], .d (.int .i64 c)] k = match box (lentA hq [.agg [.d (.int .i64 al), .d (.ivs rs.length (rowsD (marksR rs c))), .sl id1 g1 o1 len1], .d (.int .i64 c)]) with
    | .mk (some fs) => kLent (evCall env L n) 38 fs fun r => k r hq
    | _ => none := kCall_lent mode_heldAutomaton
theorem kv_heldAutomaton_3 {R : Type} {L n : Nat} {hq : H} {k : A → H → Option R} {id1 g1 o1 len1 : Nat} {id0 g0 o0 len0 : Nat} {al : Int} {c : Int} : kCall env (evCall env L n) hq 38 [.agg [.d (.int .i64 al), .sl id0 g0 o0 len0, .sl id1 g1 o1 len1], .d (.int .i64 c)] k = match box (lentA hq [.agg [.d (.int .i64 al), .sl id0 g0 o0 len0, .sl id1 g1 o1 len1], .d (.int .i64 c)]) with
    | .mk (some fs) => kLent (evCall env L n) 38 fs fun r => k r hq
    | _ => none := kCall_lent mode_heldAutomaton

end Ev
end Go.Proofs.Ytidobgmklcbcpaa
