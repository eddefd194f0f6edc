/-
  The states to which a word leads in a system.
-/
import Derived.Test.YtojaohcpgelhmaaDoorMoves
import Derived.Test.YtojaohcpgelhmaaDoorDropS
set_option linter.unusedSimpArgs false
set_option linter.unusedVariables false
set_option maxRecDepth 8000
set_option pp.maxSteps 6000
set_option maxHeartbeats 4000000
namespace Go.Proofs.YtojaohcpgelhmaaDoor
namespace Ev

/-- A step by a letter's byte. -/
def stepL (l : List Edge) (b : UInt8) (s : Nat) : Nat := stepG (fun k => mvAt l (k * 6 + (ltr b).toNat)) s s 0

/-- Where a word leads, from a place on. -/
def saGo (l : List Edge) (w : List UInt8) : Nat → Nat → Nat → Nat × Nat
  | 0, i, s => (i, s)
  | j + 1, i, s => if i < w.length ∧ s ≠ 0 then saGo l w j (i + 1) (stepL l (w.getD i 0) s) else (i, s)

def statesAfter (t : Sys) (w : List UInt8) : Nat := if sysOK t && wordIn t.al w then (saGo t.es.reverse w (w.length + 1) 0 1).2 else 0

theorem sys_bounds {al st : Int} {l : List Edge} (h : sysOK ⟨al, st, l⟩ = true) : ∀ e ∈ l, 0 ≤ e.fr ∧ e.fr < 16 ∧ 0 ≤ e.lt ∧ e.lt < 6 ∧ 0 ≤ e.to ∧ e.to < 16 := by
  intro e he
  have h1 := sysOK_edge h he
  have h' := h
  unfold sysOK at h'
  simp only [Bool.and_eq_true, decide_eq_true_eq] at h'
  unfold edgeOK at h1
  simp only [Bool.and_eq_true, decide_eq_true_eq] at h1
  omega

theorem mv16 {l : List Edge} (hv : ∀ e ∈ l, 0 ≤ e.fr ∧ e.fr < 16 ∧ 0 ≤ e.lt ∧ e.lt < 6 ∧ 0 ≤ e.to ∧ e.to < 16) : ∀ k, mvAt l k < 65536 := fun k => mvAt_lt (n := 16) fun e he => by
  have := hv e he; omega

theorem ev_i_moves_step {L n : Nat} (hn : 2 ≤ n) (l : List Edge) (s : Nat) (c : Int) (hc0 : 0 ≤ c) (hc6 : c < 6) (hm16 : ∀ k, mvAt l k < 65536) (hs : s < 65536) (hL : 2 ^ 60 ≤ L) : evCall env L n 41 [.d (.iptr (mvD l)), .d (.int .i64 (s : Nat)), .d (.int .i64 c)] [] = some (.d (.int .i64 (stepG (fun k => mvAt l (k * 6 + c.toNat)) s s 0 : Nat)), []) := by
  have loop_c := fun {R : Type} {n : Nat} {k : Exit → List A → H → Option R} (hn : 1 ≤ n) => @loop_moves_step R L n hn l c hc0 hc6 hm16 k s s 0 L hs (by omega) (Nat.le_refl _) (by omega)
  simp only [Int.natCast_zero] at loop_c
  obtain ⟨n, rfl⟩ : ∃ m, n = m + 1 := ⟨n - 1, by omega⟩
  rw [fn_i_moves_step]
  simp only [S_i_moves_step, Tryd.f41, slimF, slimL, lpOf, codeOf, Option.getD_some, slim, loops, List.length_nil, Nat.add_zero, Nat.zero_add, slimO, slimG, List.map_cons, List.map_nil, List.getElem?_cons_zero, List.getElem?_cons_succ, Option.bind_some, Bool.false_eq_true, if_false, if_true, List.length_cons, List.replicate, List.cons_append, List.nil_append, List.append_nil, Nat.reduceAdd, Nat.reduceSub, List.getD_cons_zero, List.getD_cons_succ]
  simp -implicitDefEqProofs (maxSteps := 2000000) (disch := first | assumption | (refine Shut.mk ?_; kernel_rfl) | omega | (simp only [List.getElem?_cons_zero, List.getElem?_cons_succ]; done) | (simp only [List.length_append, List.length_cons, List.length_nil, List.length_set, List.length_replicate, List.length_map, List.length_take, List.length_drop] <;> omega) | (fail)) only [↓WD, ↓kAsg, ↓kRet, ↓reduceIte, ↓clash_free, ↓WDD, ↓kOpD_callv, WK, thawAt, evPick, aPut, leavesBody, outA, outS, outSs, idsA, idsL, mapA, calmAs, calmA, calmSl, calmPt, genOf, calmH, calmFrom, calmO, mapAs, maskB, isUndef, tidy, Int.reduceLT, Int.reduceLE, Int.reduceEq, Int.reduceNe, Int.reduceNeg, Int.reduceAdd, Int.reduceSub, Int.reduceMul, Int.reduceToNat, Nat.reduceAdd, Nat.reduceSub, aBuiltin, aAppend, aAppend0, aAppendV, isVec, bears, emptyArr, sliceAs, keeps, aBuildVec, aMakeVec, sliceCells, aBuildSlice, aIndexAddr, aLoad, runOf, ofCells, TY, LB, aLen, withInt, fillA, frzL, listWith, frz, frz0, deep, cellsA, setRun, okCell, List.replicate, notJunk, Nat.reduceMul, Nat.reduceLeDiff, Nat.reducePow, Nat.reduceBEq, boxIds, aResults, aResult, outAs, tupA, evNilCheck, aMove, MD, opds, evOp, asOper, one, two, evCallee, evAssign, aNew, evSlice, evField, evExtract, evFunc, pureOp, isCall, readOp, List.range', back, putBack, fuelR, closed, aStore, thawCells, place, pack, mapO, Nat.reduceEqDiff, Nat.reduceLT, maxNeed, i64_id, frzA, frzAs, memD, lentA, footC, ↓kc_math_bits_TrailingZeros, ↓loop_c]
theorem kc_i_moves_step {R : Type} {L n : Nat} {hq : H} {k : A → H → Option R} (hn : 2 ≤ n) (l : List Edge) (s : Nat) (c : Int) (hc0 : 0 ≤ c) (hc6 : c < 6) (hm16 : ∀ k, mvAt l k < 65536) (hs : s < 65536) (hL : 2 ^ 60 ≤ L) : kCall env (evCall env L n) hq 41 [.d (.iptr (mvD l)), .d (.int .i64 (s : Nat)), .d (.int .i64 c)] k = k (.d (.int .i64 (stepG (fun k => mvAt l (k * 6 + c.toNat)) s s 0 : Nat))) hq :=
  kCall_still rfl (ev_i_moves_step hn l s c hc0 hc6 hm16 hs hL) rfl (.inl rfl)

theorem loop_i_StatesAfter {R : Type} {L n : Nat} (hn : 3 ≤ n) (hL : 2 ^ 60 ≤ L) {l : List Edge} (hm16 : ∀ k, mvAt l k < 65536) {w : List UInt8} (hw : w.length ≤ 50000) (hok : w.all okB = true) {k : Exit → List A → H → Option R} : ∀ (j i s m : Nat) (hi : i + j = w.length + 1) (hj : 1 ≤ j) (hs : s < 65536) (hm : j < m),
    kLoop env (evCall env L n) L 0 [] (false :: true :: false :: false :: true :: true :: true :: true :: false :: false :: false :: false :: false :: false :: false :: false :: false :: false :: false :: false :: false :: false :: false :: false :: false :: false :: false :: false :: false :: false :: false :: false :: false :: false :: false :: false :: false :: []) (lp_i_StatesAfter 0) (true :: false :: true :: true :: false :: false :: false :: false :: true :: true :: true :: true :: true :: true :: true :: true :: true :: true :: true :: true :: true :: true :: true :: true :: true :: true :: true :: true :: true :: true :: true :: true :: true :: true :: true :: true :: true :: []) m (.junk :: .d (.str w) :: .junk :: .junk :: .d (.int .i64 0) :: .d (.iptr (mvD l)) :: .d (.int .i64 ((s : Int))) :: .d (.int .i64 ((i : Int))) :: .junk :: .junk :: .junk :: .junk :: .junk :: .junk :: .junk :: .junk :: .junk :: .junk :: .junk :: .junk :: .junk :: .junk :: .junk :: .junk :: .junk :: .junk :: .junk :: .junk :: .junk :: .junk :: .junk :: .junk :: .junk :: .junk :: .junk :: .junk :: .junk :: []) [] k
    = k (.exit 0) (.junk :: .d (.str w) :: .junk :: .junk :: .d (.int .i64 0) :: .d (.iptr (mvD l)) :: .d (.int .i64 ((((saGo l w j i s).2 : Nat) : Int))) :: .d (.int .i64 ((((saGo l w j i s).1 : Nat) : Int))) :: .junk :: .junk :: .junk :: .junk :: .junk :: .junk :: .junk :: .junk :: .junk :: .junk :: .junk :: .junk :: .junk :: .junk :: .junk :: .junk :: .junk :: .junk :: .junk :: .junk :: .junk :: .junk :: .junk :: .junk :: .junk :: .junk :: .junk :: .junk :: .junk :: []) [] := by
  intro j
  induction j with
  | zero => intro i s m hi hj; omega
  | succ j ih =>
    intro i s m hi hj hs hm
    obtain ⟨m, rfl⟩ : ∃ q, m = q + 1 := ⟨m - 1, by omega⟩
    by_cases h1 : i < w.length
    · have hc : (i : Int) < w.length := by omega
      by_cases h2 : s = 0
      · subst h2
        rw [step_i_StatesAfter_0]
        simp only [S_i_StatesAfter_0, Tryd.f11, slimF, slimL, lpOf, codeOf, Option.getD_some, slim, loops, List.length_nil, Nat.add_zero, Nat.zero_add, slimO, slimG, List.map_cons, List.map_nil, List.getElem?_cons_zero, List.getElem?_cons_succ, Option.bind_some, Bool.false_eq_true, if_false, if_true, List.length_cons, List.replicate, List.cons_append, List.nil_append, List.append_nil, Nat.reduceAdd, Nat.reduceSub, List.getD_cons_zero, List.getD_cons_succ]
        simp -implicitDefEqProofs (maxSteps := 2000000) (disch := first | assumption | (refine Shut.mk ?_; kernel_rfl) | omega | (simp only [List.getElem?_cons_zero, List.getElem?_cons_succ]; done) | (simp only [List.length_append, List.length_cons, List.length_nil, List.length_set, List.length_replicate, List.length_map, List.length_take, List.length_drop] <;> omega) | (fail)) only [↓WD, ↓kAsg, ↓kRet, ↓reduceIte, ↓clash_free, ↓WDD, ↓kOpD_callv, WK, thawAt, evPick, aPut, leavesBody, outA, outS, outSs, idsA, idsL, mapA, calmAs, calmA, calmSl, calmPt, genOf, calmH, calmFrom, calmO, mapAs, maskB, isUndef, tidy, Int.reduceLT, Int.reduceLE, Int.reduceEq, Int.reduceNe, Int.reduceNeg, Int.reduceAdd, Int.reduceSub, Int.reduceMul, Int.reduceToNat, Nat.reduceAdd, Nat.reduceSub, aBuiltin, aAppend, aAppend0, aAppendV, isVec, bears, emptyArr, sliceAs, keeps, aBuildVec, aMakeVec, sliceCells, aBuildSlice, aIndexAddr, aLoad, runOf, ofCells, TY, LB, aLen, withInt, fillA, frzL, listWith, frz, frz0, deep, cellsA, setRun, okCell, List.replicate, notJunk, Nat.reduceMul, Nat.reduceLeDiff, Nat.reducePow, Nat.reduceBEq, boxIds, aResults, aResult, outAs, tupA, evNilCheck, aMove, MD, opds, evOp, asOper, one, two, evCallee, evAssign, aNew, evSlice, evField, evExtract, evFunc, pureOp, isCall, readOp, List.range', back, putBack, fuelR, closed, aStore, thawCells, place, pack, mapO, Nat.reduceEqDiff, Nat.reduceLT, maxNeed, i64_id, frzA, frzAs, memD, lentA, footC, ↓kc_i_SystemValid, ↓kc_i_WordWithin, ↓kc_i_movesOf, ↓kc_i_letterAt, ↓kc_i_moves_step, ↓kl_i_SystemValid, ↓kv_i_SystemValid_1, u_string, hc, Int.natCast_zero]
        simp [saGo]
      · have h2' : ¬ (s : Int) = 0 := by omega
        have hb := all_at (d := 0) hok h1
        have hlet : isLet (ltr (w.getD i 0)) = true := hb
        have hbd := isLet_iff.1 hb
        have b0 := hbd.1
        have b6 : ltr (w.getD i 0) < 6 := by have := hbd.2; omega
        have hst : stepL l (w.getD i 0) s < 65536 := stepG_lt (w := 16) (fun k => hm16 _) s s 0 (by omega)
        have ih' := ih (i + 1) (stepL l (w.getD i 0) s) m (by omega) (by omega) hst (by omega)
        have e4 : ((i + 1 : Nat) : Int) = (i : Int) + 1 := by omega
        rw [e4] at ih'
        unfold stepL at ih'
        clear ih hst hb hbd
        rw [step_i_StatesAfter_0]
        simp only [S_i_StatesAfter_0, Tryd.f11, slimF, slimL, lpOf, codeOf, Option.getD_some, slim, loops, List.length_nil, Nat.add_zero, Nat.zero_add, slimO, slimG, List.map_cons, List.map_nil, List.getElem?_cons_zero, List.getElem?_cons_succ, Option.bind_some, Bool.false_eq_true, if_false, if_true, List.length_cons, List.replicate, List.cons_append, List.nil_append, List.append_nil, Nat.reduceAdd, Nat.reduceSub, List.getD_cons_zero, List.getD_cons_succ]
        simp -implicitDefEqProofs (maxSteps := 2000000) (disch := first | assumption | (refine Shut.mk ?_; kernel_rfl) | omega | (simp only [List.getElem?_cons_zero, List.getElem?_cons_succ]; done) | (simp only [List.length_append, List.length_cons, List.length_nil, List.length_set, List.length_replicate, List.length_map, List.length_take, List.length_drop] <;> omega) | (fail)) only [↓WD, ↓kAsg, ↓kRet, ↓reduceIte, ↓clash_free, ↓WDD, ↓kOpD_callv, WK, thawAt, evPick, aPut, leavesBody, outA, outS, outSs, idsA, idsL, mapA, calmAs, calmA, calmSl, calmPt, genOf, calmH, calmFrom, calmO, mapAs, maskB, isUndef, tidy, Int.reduceLT, Int.reduceLE, Int.reduceEq, Int.reduceNe, Int.reduceNeg, Int.reduceAdd, Int.reduceSub, Int.reduceMul, Int.reduceToNat, Nat.reduceAdd, Nat.reduceSub, aBuiltin, aAppend, aAppend0, aAppendV, isVec, bears, emptyArr, sliceAs, keeps, aBuildVec, aMakeVec, sliceCells, aBuildSlice, aIndexAddr, aLoad, runOf, ofCells, TY, LB, aLen, withInt, fillA, frzL, listWith, frz, frz0, deep, cellsA, setRun, okCell, List.replicate, notJunk, Nat.reduceMul, Nat.reduceLeDiff, Nat.reducePow, Nat.reduceBEq, boxIds, aResults, aResult, outAs, tupA, evNilCheck, aMove, MD, opds, evOp, asOper, one, two, evCallee, evAssign, aNew, evSlice, evField, evExtract, evFunc, pureOp, isCall, readOp, List.range', back, putBack, fuelR, closed, aStore, thawCells, place, pack, mapO, Nat.reduceEqDiff, Nat.reduceLT, maxNeed, i64_id, frzA, frzAs, memD, lentA, footC, ↓kc_i_SystemValid, ↓kc_i_WordWithin, ↓kc_i_movesOf, ↓kc_i_moves_step, ↓kl_i_SystemValid, ↓kv_i_SystemValid_1, u_string, hc, h2', ↓kc_i_letterAt, hlet, b0, b6, Int.toNat_natCast, hm16, ↓ih']
        simp only [saGo, h1, h2, ne_eq, not_false_eq_true, and_self, if_true, stepL]
    · have hc : ¬ (i : Int) < w.length := by omega
      rw [step_i_StatesAfter_0]
      simp only [S_i_StatesAfter_0, Tryd.f11, slimF, slimL, lpOf, codeOf, Option.getD_some, slim, loops, List.length_nil, Nat.add_zero, Nat.zero_add, slimO, slimG, List.map_cons, List.map_nil, List.getElem?_cons_zero, List.getElem?_cons_succ, Option.bind_some, Bool.false_eq_true, if_false, if_true, List.length_cons, List.replicate, List.cons_append, List.nil_append, List.append_nil, Nat.reduceAdd, Nat.reduceSub, List.getD_cons_zero, List.getD_cons_succ]
      simp -implicitDefEqProofs (maxSteps := 2000000) (disch := first | assumption | (refine Shut.mk ?_; kernel_rfl) | omega | (simp only [List.getElem?_cons_zero, List.getElem?_cons_succ]; done) | (simp only [List.length_append, List.length_cons, List.length_nil, List.length_set, List.length_replicate, List.length_map, List.length_take, List.length_drop] <;> omega) | (fail)) only [↓WD, ↓kAsg, ↓kRet, ↓reduceIte, ↓clash_free, ↓WDD, ↓kOpD_callv, WK, thawAt, evPick, aPut, leavesBody, outA, outS, outSs, idsA, idsL, mapA, calmAs, calmA, calmSl, calmPt, genOf, calmH, calmFrom, calmO, mapAs, maskB, isUndef, tidy, Int.reduceLT, Int.reduceLE, Int.reduceEq, Int.reduceNe, Int.reduceNeg, Int.reduceAdd, Int.reduceSub, Int.reduceMul, Int.reduceToNat, Nat.reduceAdd, Nat.reduceSub, aBuiltin, aAppend, aAppend0, aAppendV, isVec, bears, emptyArr, sliceAs, keeps, aBuildVec, aMakeVec, sliceCells, aBuildSlice, aIndexAddr, aLoad, runOf, ofCells, TY, LB, aLen, withInt, fillA, frzL, listWith, frz, frz0, deep, cellsA, setRun, okCell, List.replicate, notJunk, Nat.reduceMul, Nat.reduceLeDiff, Nat.reducePow, Nat.reduceBEq, boxIds, aResults, aResult, outAs, tupA, evNilCheck, aMove, MD, opds, evOp, asOper, one, two, evCallee, evAssign, aNew, evSlice, evField, evExtract, evFunc, pureOp, isCall, readOp, List.range', back, putBack, fuelR, closed, aStore, thawCells, place, pack, mapO, Nat.reduceEqDiff, Nat.reduceLT, maxNeed, i64_id, frzA, frzAs, memD, lentA, footC, ↓kc_i_SystemValid, ↓kc_i_WordWithin, ↓kc_i_movesOf, ↓kc_i_letterAt, ↓kc_i_moves_step, ↓kl_i_SystemValid, ↓kv_i_SystemValid_1, u_string, hc]
      simp only [saGo, h1, false_and, if_false]

theorem ev_i_StatesAfter {L n : Nat} (hn : 7 ≤ n) (al st : Int) (l : List Edge) (w : List UInt8) (hl : l.length ≤ 4294967296) (hL : 2 ^ 60 ≤ L) : evCall env L n 11 [.agg [.d (.int .i64 al), .d (.int .i64 st), .d (.ivs l.length (edgesD l))], .d (.str w)] [] = some (.d (.int .i64 (statesAfter ⟨al, st, l⟩ w : Nat)), []) := by
  unfold statesAfter
  cases h1 : sysOK ⟨al, st, l⟩ with
  | false =>
    obtain ⟨n, rfl⟩ : ∃ m, n = m + 1 := ⟨n - 1, by omega⟩
    rw [fn_i_StatesAfter]
    simp only [S_i_StatesAfter, Tryd.f11, slimF, slimL, lpOf, codeOf, Option.getD_some, slim, loops, List.length_nil, Nat.add_zero, Nat.zero_add, slimO, slimG, List.map_cons, List.map_nil, List.getElem?_cons_zero, List.getElem?_cons_succ, Option.bind_some, Bool.false_eq_true, if_false, if_true, List.length_cons, List.replicate, List.cons_append, List.nil_append, List.append_nil, Nat.reduceAdd, Nat.reduceSub, List.getD_cons_zero, List.getD_cons_succ]
    simp -implicitDefEqProofs (maxSteps := 2000000) (disch := first | assumption | (refine Shut.mk ?_; kernel_rfl) | omega | (simp only [List.getElem?_cons_zero, List.getElem?_cons_succ]; done) | (simp only [List.length_append, List.length_cons, List.length_nil, List.length_set, List.length_replicate, List.length_map, List.length_take, List.length_drop] <;> omega) | (fail)) only [↓WD, ↓kAsg, ↓kRet, ↓reduceIte, ↓clash_free, ↓WDD, ↓kOpD_callv, WK, thawAt, evPick, aPut, leavesBody, outA, outS, outSs, idsA, idsL, mapA, calmAs, calmA, calmSl, calmPt, genOf, calmH, calmFrom, calmO, mapAs, maskB, isUndef, tidy, Int.reduceLT, Int.reduceLE, Int.reduceEq, Int.reduceNe, Int.reduceNeg, Int.reduceAdd, Int.reduceSub, Int.reduceMul, Int.reduceToNat, Nat.reduceAdd, Nat.reduceSub, aBuiltin, aAppend, aAppend0, aAppendV, isVec, bears, emptyArr, sliceAs, keeps, aBuildVec, aMakeVec, sliceCells, aBuildSlice, aIndexAddr, aLoad, runOf, ofCells, TY, LB, aLen, withInt, fillA, frzL, listWith, frz, frz0, deep, cellsA, setRun, okCell, List.replicate, notJunk, Nat.reduceMul, Nat.reduceLeDiff, Nat.reducePow, Nat.reduceBEq, boxIds, aResults, aResult, outAs, tupA, evNilCheck, aMove, MD, opds, evOp, asOper, one, two, evCallee, evAssign, aNew, evSlice, evField, evExtract, evFunc, pureOp, isCall, readOp, List.range', back, putBack, fuelR, closed, aStore, thawCells, place, pack, mapO, Nat.reduceEqDiff, Nat.reduceLT, maxNeed, i64_id, frzA, frzAs, memD, lentA, footC, ↓kc_i_SystemValid, ↓kc_i_WordWithin, ↓kc_i_movesOf, ↓kc_i_letterAt, ↓kc_i_moves_step, ↓kl_i_SystemValid, ↓kv_i_SystemValid_1, ↓loop_i_StatesAfter, h1, Bool.false_and]
    rfl
  | true =>
    cases h2 : wordIn al w with
    | false =>
      obtain ⟨n, rfl⟩ : ∃ m, n = m + 1 := ⟨n - 1, by omega⟩
      rw [fn_i_StatesAfter]
      simp only [S_i_StatesAfter, Tryd.f11, slimF, slimL, lpOf, codeOf, Option.getD_some, slim, loops, List.length_nil, Nat.add_zero, Nat.zero_add, slimO, slimG, List.map_cons, List.map_nil, List.getElem?_cons_zero, List.getElem?_cons_succ, Option.bind_some, Bool.false_eq_true, if_false, if_true, List.length_cons, List.replicate, List.cons_append, List.nil_append, List.append_nil, Nat.reduceAdd, Nat.reduceSub, List.getD_cons_zero, List.getD_cons_succ]
      simp -implicitDefEqProofs (maxSteps := 2000000) (disch := first | assumption | (refine Shut.mk ?_; kernel_rfl) | omega | (simp only [List.getElem?_cons_zero, List.getElem?_cons_succ]; done) | (simp only [List.length_append, List.length_cons, List.length_nil, List.length_set, List.length_replicate, List.length_map, List.length_take, List.length_drop] <;> omega) | (fail)) only [↓WD, ↓kAsg, ↓kRet, ↓reduceIte, ↓clash_free, ↓WDD, ↓kOpD_callv, WK, thawAt, evPick, aPut, leavesBody, outA, outS, outSs, idsA, idsL, mapA, calmAs, calmA, calmSl, calmPt, genOf, calmH, calmFrom, calmO, mapAs, maskB, isUndef, tidy, Int.reduceLT, Int.reduceLE, Int.reduceEq, Int.reduceNe, Int.reduceNeg, Int.reduceAdd, Int.reduceSub, Int.reduceMul, Int.reduceToNat, Nat.reduceAdd, Nat.reduceSub, aBuiltin, aAppend, aAppend0, aAppendV, isVec, bears, emptyArr, sliceAs, keeps, aBuildVec, aMakeVec, sliceCells, aBuildSlice, aIndexAddr, aLoad, runOf, ofCells, TY, LB, aLen, withInt, fillA, frzL, listWith, frz, frz0, deep, cellsA, setRun, okCell, List.replicate, notJunk, Nat.reduceMul, Nat.reduceLeDiff, Nat.reducePow, Nat.reduceBEq, boxIds, aResults, aResult, outAs, tupA, evNilCheck, aMove, MD, opds, evOp, asOper, one, two, evCallee, evAssign, aNew, evSlice, evField, evExtract, evFunc, pureOp, isCall, readOp, List.range', back, putBack, fuelR, closed, aStore, thawCells, place, pack, mapO, Nat.reduceEqDiff, Nat.reduceLT, maxNeed, i64_id, frzA, frzAs, memD, lentA, footC, ↓kc_i_SystemValid, ↓kc_i_WordWithin, ↓kc_i_movesOf, ↓kc_i_letterAt, ↓kc_i_moves_step, ↓kl_i_SystemValid, ↓kv_i_SystemValid_1, ↓loop_i_StatesAfter, h1, h2, Bool.and_false]
      rfl
    | true =>
      have hv := sys_bounds h1
      have hv2 : ∀ e ∈ l.reverse, 0 ≤ e.fr ∧ e.fr < 16 ∧ 0 ≤ e.lt ∧ e.lt < 6 ∧ 0 ≤ e.to ∧ e.to < 16 := fun e he => hv e (List.mem_reverse.1 he)
      have hm16 := mv16 hv2
      have hw' := h2
      unfold wordIn at hw'
      simp only [Bool.and_eq_true, decide_eq_true_eq] at hw'
      have hok : w.all okB = true := by
        rw [List.all_eq_true]
        intro b hb
        have := List.all_eq_true.1 hw'.2 b hb
        unfold inB at this
        simp only [Bool.and_eq_true] at this
        exact this.1
      have hlen := hw'.1.2
      have loop_c := fun {R : Type} {n : Nat} {k : Exit → List A → H → Option R} (hn : 3 ≤ n) => @loop_i_StatesAfter R L n hn hL l.reverse hm16 w hlen hok k (w.length + 1) 0 1 L (by omega) (by omega) (by omega) (by omega)
      simp only [Int.natCast_zero, Int.natCast_one] at loop_c
      obtain ⟨n, rfl⟩ : ∃ m, n = m + 1 := ⟨n - 1, by omega⟩
      rw [fn_i_StatesAfter]
      simp only [S_i_StatesAfter, Tryd.f11, slimF, slimL, lpOf, codeOf, Option.getD_some, slim, loops, List.length_nil, Nat.add_zero, Nat.zero_add, slimO, slimG, List.map_cons, List.map_nil, List.getElem?_cons_zero, List.getElem?_cons_succ, Option.bind_some, Bool.false_eq_true, if_false, if_true, List.length_cons, List.replicate, List.cons_append, List.nil_append, List.append_nil, Nat.reduceAdd, Nat.reduceSub, List.getD_cons_zero, List.getD_cons_succ]
      simp -implicitDefEqProofs (maxSteps := 2000000) (disch := first | assumption | (refine Shut.mk ?_; kernel_rfl) | omega | (simp only [List.getElem?_cons_zero, List.getElem?_cons_succ]; done) | (simp only [List.length_append, List.length_cons, List.length_nil, List.length_set, List.length_replicate, List.length_map, List.length_take, List.length_drop] <;> omega) | (fail)) only [↓WD, ↓kAsg, ↓kRet, ↓reduceIte, ↓clash_free, ↓WDD, ↓kOpD_callv, WK, thawAt, evPick, aPut, leavesBody, outA, outS, outSs, idsA, idsL, mapA, calmAs, calmA, calmSl, calmPt, genOf, calmH, calmFrom, calmO, mapAs, maskB, isUndef, tidy, Int.reduceLT, Int.reduceLE, Int.reduceEq, Int.reduceNe, Int.reduceNeg, Int.reduceAdd, Int.reduceSub, Int.reduceMul, Int.reduceToNat, Nat.reduceAdd, Nat.reduceSub, aBuiltin, aAppend, aAppend0, aAppendV, isVec, bears, emptyArr, sliceAs, keeps, aBuildVec, aMakeVec, sliceCells, aBuildSlice, aIndexAddr, aLoad, runOf, ofCells, TY, LB, aLen, withInt, fillA, frzL, listWith, frz, frz0, deep, cellsA, setRun, okCell, List.replicate, notJunk, Nat.reduceMul, Nat.reduceLeDiff, Nat.reducePow, Nat.reduceBEq, boxIds, aResults, aResult, outAs, tupA, evNilCheck, aMove, MD, opds, evOp, asOper, one, two, evCallee, evAssign, aNew, evSlice, evField, evExtract, evFunc, pureOp, isCall, readOp, List.range', back, putBack, fuelR, closed, aStore, thawCells, place, pack, mapO, Nat.reduceEqDiff, Nat.reduceLT, maxNeed, i64_id, frzA, frzAs, memD, lentA, footC, ↓kc_i_SystemValid, ↓kc_i_WordWithin, ↓kc_i_letterAt, ↓kc_i_moves_step, ↓kl_i_SystemValid, ↓kv_i_SystemValid_1, h1, h2, ↓kc_i_movesOf, hv, ↓loop_c]
theorem kc_i_StatesAfter {R : Type} {L n : Nat} {hq : H} {k : A → H → Option R} (hn : 7 ≤ n) (al st : Int) (l : List Edge) (w : List UInt8) (hl : l.length ≤ 4294967296) (hL : 2 ^ 60 ≤ L) : kCall env (evCall env L n) hq 11 [.agg [.d (.int .i64 al), .d (.int .i64 st), .d (.ivs l.length (edgesD l))], .d (.str w)] k = k (.d (.int .i64 (statesAfter ⟨al, st, l⟩ w : Nat))) hq :=
  kCall_still rfl (ev_i_StatesAfter hn al st l w hl hL) rfl (.inl rfl)
theorem kl_i_StatesAfter {R : Type} {L n : Nat} {k : A → Option R} (hn : 7 ≤ n) (al st : Int) (l : List Edge) (w : List UInt8) (hl : l.length ≤ 4294967296) (hL : 2 ^ 60 ≤ L) : kLent (evCall env L n) 11 [.agg [.d (.int .i64 al), .d (.int .i64 st), .d (.ivs l.length (edgesD l))], .d (.str w)] k = k (.d (.int .i64 (statesAfter ⟨al, st, l⟩ w : Nat))) :=
  kLent_ev (ev_i_StatesAfter hn al st l w hl hL) rfl
theorem kv_i_StatesAfter_1 {R : Type} {L n : Nat} {hq : H} {k : A → H → Option R} {id0 g0 o0 len0 : Nat} {al st : Int} {w : List UInt8} : kCall env (evCall env L n) hq 11 [.agg [.d (.int .i64 al), .d (.int .i64 st), .sl id0 g0 o0 len0], .d (.str w)] k = match box (lentA hq [.agg [.d (.int .i64 al), .d (.int .i64 st), .sl id0 g0 o0 len0], .d (.str w)]) with
    | .mk (some fs) => kLent (evCall env L n) 11 fs fun r => k r hq
    | _ => none := kCall_lent mode_i_StatesAfter

end Ev
end Go.Proofs.YtojaohcpgelhmaaDoor
