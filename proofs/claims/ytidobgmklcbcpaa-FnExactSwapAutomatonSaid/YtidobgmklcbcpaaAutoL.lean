/-
  The exact laws' own functions, at rows of numbers and at automata: copies.
-/
import Derived.Test.YtidobgmklcbcpaaVec
import Derived.Test.YtidobgmklcbcpaaLawE
set_option linter.unusedSimpArgs false
set_option linter.unusedVariables false
set_option maxRecDepth 8000
set_option pp.maxSteps 6000
set_option maxHeartbeats 4000000
namespace Go.Proofs.Ytidobgmklcbcpaa
namespace Ev

structure Aut where
  al : Int
  nx : List (List Int)
  ac : List Bool
  deriving DecidableEq, Inhabited

def rowD (r : List Int) : D := .ivs r.length (ints r)
def rowsD (rs : List (List Int)) : List D := rs.map rowD
def bools (l : List Bool) : List D := l.map .bool

theorem rowsD_length {l : List (List Int)} : (rowsD l).length = l.length := by simp [rowsD]
theorem bools_length {l : List Bool} : (bools l).length = l.length := by simp [bools]
theorem bools_take {l : List Bool} {k : Nat} (h : l.length ≤ k) : (bools l).take k = bools l := List.take_of_length_le (by rw [bools_length]; exact h)
theorem bools_head {l : List Bool} {k : Nat} (h : k < l.length) : (((bools l).drop k).map A.d).head? = some (.d (.bool (l.getD k false))) := by
  rw [List.head?_map, List.head?_drop, bools, List.getElem?_map, List.getD_eq_getElem?_getD, List.getElem?_eq_getElem h]
  rfl
theorem bools_set {l : List Bool} {k : Nat} {v : Bool} (h : k < l.length) : setRun (bools l) k [.bool v] = bools (l.set k v) := setRun_map _ l k v h
theorem rows_head {l : List (List Int)} {k : Nat} (h : k < l.length) : (((rowsD l).drop k).map A.d).head? = some (.d (.ivs (l.getD k []).length (ints (l.getD k [])))) := by
  rw [List.head?_map, List.head?_drop, rowsD, List.getElem?_map, List.getD_eq_getElem?_getD, List.getElem?_eq_getElem h]
  rfl
theorem rows_take {l : List (List Int)} {k : Nat} (h : l.length ≤ k) : (rowsD l).take k = rowsD l := List.take_of_length_le (by rw [rowsD_length]; exact h)

/-- Rows, truth values, in every walk. -/
theorem LA : type_of% (And.intro @rowsD_length (And.intro @bools_length (And.intro @bools_take (And.intro @bools_head (And.intro @rows_head @rows_take))))) := And.intro @rowsD_length (And.intro @bools_length (And.intro @bools_take (And.intro @bools_head (And.intro @rows_head @rows_take))))

theorem set_go1 {α : Type} {l : List α} {k : Nat} {v : α} {m : List α} (h : k < l.length) : (l.set k v).take (k + 1) ++ m = l.take k ++ (v :: m) := by
  rw [take_set h]; simp

theorem loop_toIntS {R : Type} {L n : Nat} (hn : 1 ≤ n) {l : List Int} (hl : l.length ≤ 4294967296) {k : Exit → List A → H → Option R} : ∀ (i : Int) (m : Nat) (o : List Int) (len : Nat) (h0 : 0 ≤ i) (hi : i ≤ l.length) (hm : (l.length : Int) - i < m) (ho : o.length = l.length) (hlen : len = l.length),
    kLoop env (evCall env L n) L 0 [] (true :: false :: true :: true :: true :: false :: false :: false :: false :: false :: false :: false :: false :: false :: false :: false :: false :: false :: false :: false :: false :: false :: []) (lp_toIntS 0) (false :: true :: false :: false :: false :: true :: true :: true :: true :: true :: true :: true :: true :: true :: true :: true :: true :: true :: true :: true :: true :: true :: []) m (.d (.ivs l.length (ints l)) :: .junk :: .d .nils :: .sl 0 0 0 len :: .d (.int .i64 i) :: .junk :: .junk :: .junk :: .junk :: .junk :: .junk :: .junk :: .junk :: .junk :: .junk :: .junk :: .junk :: .junk :: .junk :: .junk :: .junk :: .junk :: []) [.arr (ints o) 1 0] k
    = k (.exit 0) (.d (.ivs l.length (ints l)) :: .junk :: .d .nils :: .sl 0 0 0 l.length :: .d (.int .i64 (l.length)) :: .junk :: .junk :: .junk :: .junk :: .junk :: .junk :: .junk :: .junk :: .junk :: .junk :: .junk :: .junk :: .junk :: .junk :: .junk :: .junk :: .junk :: []) [.arr (ints (o.take i.toNat ++ l.drop i.toNat)) 1 0] := by
  intro i m o len h0 hi hm ho hlen
  obtain ⟨j, hj⟩ : ∃ j : Nat, (j : Int) = (l.length : Int) - i := ⟨((l.length : Int) - i).toNat, by omega⟩
  induction j generalizing i m o len with
  | zero =>
    obtain ⟨m, rfl⟩ : ∃ q, m = q + 1 := ⟨m - 1, by omega⟩
    obtain rfl : i = l.length := by omega
    rw [step_toIntS_0]
    simp only [S_toIntS_0, Try.f132, slimF, slimL, lpOf, codeOf, Option.getD_some, slim, loops, List.length_nil, Nat.add_zero, Nat.zero_add, slimO, slimG, List.map_cons, List.map_nil, List.getElem?_cons_zero, List.getElem?_cons_succ, Option.bind_some, Bool.false_eq_true, if_false, if_true, List.length_cons, List.replicate, List.cons_append, List.nil_append, List.append_nil, Nat.reduceAdd, Nat.reduceSub, List.getD_cons_zero, List.getD_cons_succ]
    simp -implicitDefEqProofs (maxSteps := 2000000) (disch := first | assumption | (refine Shut.mk ?_; kernel_rfl) | omega | (simp only [List.getElem?_cons_zero, List.getElem?_cons_succ]; done) | (simp only [List.length_append, List.length_cons, List.length_nil, List.length_set, List.length_replicate, List.length_map, List.length_take, List.length_drop] <;> omega)) only [↓WD, ↓kAsg, ↓kRet, ↓reduceIte, ↓clash_free, ↓WDD, ↓kOpD_callv, WK, thawAt, evPick, aPut, leavesBody, outA, outS, outSs, idsA, idsL, mapA, calmAs, calmA, calmSl, calmPt, genOf, calmH, calmFrom, calmO, mapAs, maskB, isUndef, tidy, Int.reduceLT, Int.reduceLE, Int.reduceEq, Int.reduceNe, Int.reduceNeg, Int.reduceAdd, Int.reduceSub, Int.reduceMul, Int.reduceToNat, Nat.reduceAdd, Nat.reduceSub, aBuiltin, aAppend, aAppend0, aAppendV, isVec, bears, emptyArr, sliceAs, keeps, aBuildVec, aMakeVec, sliceCells, aBuildSlice, aIndexAddr, aLoad, runOf, ofCells, TY, LB, aLen, withInt, fillA, frzL, listWith, frz, frz0, deep, cellsA, setRun, okCell, List.replicate, notJunk, Nat.reduceMul, Nat.reduceLeDiff, Nat.reducePow, Nat.reduceBEq, boxIds, aResults, aResult, outAs, tupA, evNilCheck, aMove, MD, opds, evOp, asOper, one, two, evCallee, evAssign, aNew, evSlice, evField, evExtract, evFunc, pureOp, isCall, readOp, List.range', back, putBack, fuelR, closed, aStore, thawCells, place, pack, mapO, Nat.reduceEqDiff, Nat.reduceLT, maxNeed, i64_id, frzA, frzAs, memD, lentA, footC, Int.lt_irrefl]
    have e1 : o.take l.length = o := List.take_of_length_le (by omega)
    simp only [Int.toNat_natCast, List.drop_length, e1, List.append_nil, hlen]
  | succ j ih =>
    obtain ⟨m, rfl⟩ : ∃ q, m = q + 1 := ⟨m - 1, by omega⟩
    have hc : i < l.length := by omega
    have hk : i.toNat < l.length := by omega
    have hk2 : i.toNat < o.length := by omega
    have hc2 : i < (len : Int) := by omega
    have e1 : (i + 1).toNat = i.toNat + 1 := by omega
    rw [step_toIntS_0]
    simp only [S_toIntS_0, Try.f132, slimF, slimL, lpOf, codeOf, Option.getD_some, slim, loops, List.length_nil, Nat.add_zero, Nat.zero_add, slimO, slimG, List.map_cons, List.map_nil, List.getElem?_cons_zero, List.getElem?_cons_succ, Option.bind_some, Bool.false_eq_true, if_false, if_true, List.length_cons, List.replicate, List.cons_append, List.nil_append, List.append_nil, Nat.reduceAdd, Nat.reduceSub, List.getD_cons_zero, List.getD_cons_succ]
    simp -implicitDefEqProofs (maxSteps := 2000000) (disch := first | assumption | (refine Shut.mk ?_; kernel_rfl) | omega | (simp only [List.getElem?_cons_zero, List.getElem?_cons_succ]; done) | (simp only [List.length_append, List.length_cons, List.length_nil, List.length_set, List.length_replicate, List.length_map, List.length_take, List.length_drop] <;> omega)) only [↓WD, ↓kAsg, ↓kRet, ↓reduceIte, ↓clash_free, ↓WDD, ↓kOpD_callv, WK, thawAt, evPick, aPut, leavesBody, outA, outS, outSs, idsA, idsL, mapA, calmAs, calmA, calmSl, calmPt, genOf, calmH, calmFrom, calmO, mapAs, maskB, isUndef, tidy, Int.reduceLT, Int.reduceLE, Int.reduceEq, Int.reduceNe, Int.reduceNeg, Int.reduceAdd, Int.reduceSub, Int.reduceMul, Int.reduceToNat, Nat.reduceAdd, Nat.reduceSub, aBuiltin, aAppend, aAppend0, aAppendV, isVec, bears, emptyArr, sliceAs, keeps, aBuildVec, aMakeVec, sliceCells, aBuildSlice, aIndexAddr, aLoad, runOf, ofCells, TY, LB, aLen, withInt, fillA, frzL, listWith, frz, frz0, deep, cellsA, setRun, okCell, List.replicate, notJunk, Nat.reduceMul, Nat.reduceLeDiff, Nat.reducePow, Nat.reduceBEq, boxIds, aResults, aResult, outAs, tupA, evNilCheck, aMove, MD, opds, evOp, asOper, one, two, evCallee, evAssign, aNew, evSlice, evField, evExtract, evFunc, pureOp, isCall, readOp, List.range', back, putBack, fuelR, closed, aStore, thawCells, place, pack, mapO, Nat.reduceEqDiff, Nat.reduceLT, maxNeed, i64_id, frzA, frzAs, memD, lentA, footC, hc, hc2, u_ints, c_int, ↓st_int0, ↓ih]
    rw [drop_go hk (d := 0), e1, set_go1 hk2]

theorem ev_toIntS {L n : Nat} (hn : 2 ≤ n) (l : List Int) (hl : l.length ≤ 4294967296) (hL : 2 ^ 60 ≤ L) : evCall env L n 132 [.d (.ivs l.length (ints l))] [] = some (.sl 0 0 0 l.length, [.arr (ints l) 1 0]) := by
  obtain ⟨n, rfl⟩ : ∃ m, n = m + 1 := ⟨n - 1, by omega⟩
  rw [fn_toIntS]
  simp only [S_toIntS, Try.f132, slimF, slimL, lpOf, codeOf, Option.getD_some, slim, loops, List.length_nil, Nat.add_zero, Nat.zero_add, slimO, slimG, List.map_cons, List.map_nil, List.getElem?_cons_zero, List.getElem?_cons_succ, Option.bind_some, Bool.false_eq_true, if_false, if_true, List.length_cons, List.replicate, List.cons_append, List.nil_append, List.append_nil, Nat.reduceAdd, Nat.reduceSub, List.getD_cons_zero, List.getD_cons_succ]
  simp -implicitDefEqProofs (maxSteps := 2000000) (disch := first | assumption | (refine Shut.mk ?_; kernel_rfl) | omega | (simp only [List.getElem?_cons_zero, List.getElem?_cons_succ]; done) | (simp only [List.length_append, List.length_cons, List.length_nil, List.length_set, List.length_replicate, List.length_map, List.length_take, List.length_drop] <;> omega)) only [↓WD, ↓kAsg, ↓kRet, ↓reduceIte, ↓clash_free, ↓WDD, ↓kOpD_callv, WK, thawAt, evPick, aPut, leavesBody, outA, outS, outSs, idsA, idsL, mapA, calmAs, calmA, calmSl, calmPt, genOf, calmH, calmFrom, calmO, mapAs, maskB, isUndef, tidy, Int.reduceLT, Int.reduceLE, Int.reduceEq, Int.reduceNe, Int.reduceNeg, Int.reduceAdd, Int.reduceSub, Int.reduceMul, Int.reduceToNat, Nat.reduceAdd, Nat.reduceSub, aBuiltin, aAppend, aAppend0, aAppendV, isVec, bears, emptyArr, sliceAs, keeps, aBuildVec, aMakeVec, sliceCells, aBuildSlice, aIndexAddr, aLoad, runOf, ofCells, TY, LB, aLen, withInt, fillA, frzL, listWith, frz, frz0, deep, cellsA, setRun, okCell, List.replicate, notJunk, Nat.reduceMul, Nat.reduceLeDiff, Nat.reducePow, Nat.reduceBEq, boxIds, aResults, aResult, outAs, tupA, evNilCheck, aMove, MD, opds, evOp, asOper, one, two, evCallee, evAssign, aNew, evSlice, evField, evExtract, evFunc, pureOp, isCall, readOp, List.range', back, putBack, fuelR, closed, aStore, thawCells, place, pack, mapO, Nat.reduceEqDiff, Nat.reduceLT, maxNeed, i64_id, frzA, frzAs, memD, lentA, footC, u_ints, ↓make_ints, ↓loop_toIntS, Int.toNat_natCast, Int.toNat_zero]

theorem kc_toIntS {R : Type} {L n : Nat} {hq : H} {k : A → H → Option R} (hn : 2 ≤ n) (l : List Int) (hl : l.length ≤ 4294967296) (hL : 2 ^ 60 ≤ L) : kCall env (evCall env L n) hq 132 [.d (.ivs l.length (ints l))] k = k (.sl hq.length 0 0 l.length) (hq ++ [.arr (ints l) 1 0]) := by
  rw [kCall_new rfl mode_toIntS (ev_toIntS hn l hl hL)]
  simp [mapA, back, mapO]

/-! ### rows -/

theorem u_intss : env.P.underlying 54 = some (.slice 92) := by kernel_rfl
theorem c_ints : env.P.cellsOf 92 = 1 := by kernel_rfl
theorem i_ints : (env.P.info? 92).isSome = true := by kernel_rfl

theorem st_vec0 {h : H} {g k id gg o len : Nat} {cells : List A} (hk : k < cells.length) : aStore env.P (.vec cells 1 g :: h) 92 (.ptr 0 g k) (.sl id gg o len) = some (.vec (cells.set k (.sl id gg o len)) 1 g :: h) := by
  have hc : (cellsA (.sl id gg o len)).length = env.P.cellsOf 92 ∧ (env.P.info? 92).isSome = true ∧ (cellsA (.sl id gg o len)).all okCell = true := ⟨by rw [c_ints]; rfl, i_ints, rfl⟩
  have hs : setRun cells k (cellsA (.sl id gg o len)) = cells.set k (.sl id gg o len) := by
    unfold setRun
    rw [List.set_eq_take_append_cons_drop, if_pos hk]
    simp [cellsA]
  unfold aStore
  rw [if_pos hc]
  simp only [List.getElem?_cons_zero, c_ints, true_and, hs]
  rw [if_pos (by omega)]
  rfl

theorem make_vec {n : Int} {h : H} (h0 : 0 ≤ n) (h1 : n ≤ 4294967296) : aMakeVec env.P h 54 n n = some (.sl h.length 0 0 n.toNat, h ++ [.vec (nilsA n.toNat) 1 0]) := by
  have hm : n ≤ (maxNeed : Nat) := by unfold maxNeed; omega
  have he : elemT env.P 54 = some 92 := by kernel_rfl
  have hz : zeroA env.P 92 = some (.d .nils) := by kernel_rfl
  have hok : elemOk env.P 92 = true := by kernel_rfl
  simp only [aMakeVec, he, hz, cellsA, dataOf, Option.map_some, hok, h0, hm, c_ints, Int.le_refl, and_self, if_true, flat_rep, List.map_replicate]
  rfl

theorem set_vec {d : List (List Int)} {j k id : Nat} {r : List Int} (hk : k = d.length) (hid : id = d.length + 1) : (refsV 1 d ++ nilsA (j + 1)).set k (.sl id 0 0 r.length) = refsV 1 (d ++ [r]) ++ nilsA j := by
  subst hk; subst hid
  rw [refsV_snoc, List.set_append_right _ _ (by rw [refsV_len]; exact Nat.le_refl _), refsV_len, Nat.sub_self, nilsA_succ, List.set_cons_zero, Nat.add_comm 1]
  simp

theorem rowsO_snocI (rs : List (List Int)) (r : List Int) : rowsO rs ++ [.arr (ints r) 1 0] = rowsO (rs ++ [r]) := rowsO_snoc rs r

/-- The rows are not too long. -/
def rowsShort (rs : List (List Int)) : Prop := rs.length ≤ 4294967296 ∧ ∀ r ∈ rs, r.length ≤ 4294967296

theorem short_at {rs : List (List Int)} (h : rowsShort rs) {k : Nat} (hk : k < rs.length) : (rs.getD k []).length ≤ 4294967296 := by
  rw [List.getD_eq_getElem?_getD, List.getElem?_eq_getElem hk]
  exact h.2 _ (List.getElem_mem hk)

theorem loop_toIntSS {R : Type} {L n : Nat} (hn : 3 ≤ n) (hL : 2 ^ 60 ≤ L) {rs : List (List Int)} (hs : rowsShort rs) {k : Exit → List A → H → Option R} : ∀ (j : Nat) (i : Int) (m : Nat) (d : List (List Int)) (len : Nat) (h0 : 0 ≤ i) (hi : i + j = rs.length) (hm : j < m) (hd : (d.length : Int) = i) (hlen : len = rs.length),
    kLoop env (evCall env L n) L 0 [0, 0, 0, 0, 0, 0, 0, 1002] (true :: false :: true :: true :: true :: false :: false :: false :: false :: false :: false :: false :: false :: false :: false :: false :: false :: false :: false :: false :: false :: false :: false :: []) (lp_toIntSS 0) (false :: true :: false :: false :: false :: true :: true :: true :: true :: true :: true :: true :: true :: true :: true :: true :: true :: true :: true :: true :: true :: true :: true :: []) m (.d (.ivs rs.length (rowsD rs)) :: .junk :: .d .nils :: .sl 0 0 0 len :: .d (.int .i64 i) :: .junk :: .junk :: .junk :: .junk :: .junk :: .junk :: .junk :: .junk :: .junk :: .junk :: .junk :: .junk :: .junk :: .junk :: .junk :: .junk :: .junk :: .junk :: []) (.vec (refsV 1 d ++ nilsA j) 1 0 :: rowsO d) k
    = k (.exit 0) (.d (.ivs rs.length (rowsD rs)) :: .junk :: .d .nils :: .sl 0 0 0 rs.length :: .d (.int .i64 (rs.length)) :: .junk :: .junk :: .junk :: .junk :: .junk :: .junk :: .junk :: .junk :: .junk :: .junk :: .junk :: .junk :: .junk :: .junk :: .junk :: .junk :: .junk :: .junk :: []) (.vec (refsV 1 (d ++ rs.drop i.toNat) ++ nilsA 0) 1 0 :: rowsO (d ++ rs.drop i.toNat)) := by
  intro j
  have hrl := hs.1
  induction j with
  | zero =>
    intro i m d len h0 hi hm hd hlen
    obtain ⟨m, rfl⟩ : ∃ q, m = q + 1 := ⟨m - 1, by omega⟩
    obtain rfl : i = rs.length := by omega
    have hdl : d.length ≤ 4294967296 := by omega
    rw [step_toIntSS_0]
    simp only [S_toIntSS_0, Try.f94, slimF, slimL, lpOf, codeOf, Option.getD_some, slim, loops, List.length_nil, Nat.add_zero, Nat.zero_add, slimO, slimG, List.map_cons, List.map_nil, List.getElem?_cons_zero, List.getElem?_cons_succ, Option.bind_some, Bool.false_eq_true, if_false, if_true, List.length_cons, List.replicate, List.cons_append, List.nil_append, List.append_nil, Nat.reduceAdd, Nat.reduceSub, List.getD_cons_zero, List.getD_cons_succ]
    simp -implicitDefEqProofs (maxSteps := 2000000) (disch := first | assumption | (refine Shut.mk ?_; kernel_rfl) | omega | (simp only [List.getElem?_cons_zero, List.getElem?_cons_succ]; done) | (simp only [List.length_append, List.length_cons, List.length_nil, List.length_set, List.length_replicate, List.length_map, List.length_take, List.length_drop] <;> omega)) only [↓WD, ↓kAsg, ↓kRet, ↓reduceIte, ↓clash_free, ↓WDD, ↓kOpD_callv, WK, thawAt, evPick, aPut, leavesBody, outA, outS, outSs, idsA, idsL, mapA, calmAs, calmA, calmSl, calmPt, genOf, calmH, calmFrom, calmO, mapAs, maskB, isUndef, tidy, Int.reduceLT, Int.reduceLE, Int.reduceEq, Int.reduceNe, Int.reduceNeg, Int.reduceAdd, Int.reduceSub, Int.reduceMul, Int.reduceToNat, Nat.reduceAdd, Nat.reduceSub, aBuiltin, aAppend, aAppend0, aAppendV, isVec, bears, emptyArr, sliceAs, keeps, aBuildVec, aMakeVec, sliceCells, aBuildSlice, aIndexAddr, aLoad, runOf, ofCells, TY, LB, aLen, withInt, fillA, frzL, listWith, frz, frz0, deep, cellsA, setRun, okCell, List.replicate, notJunk, Nat.reduceMul, Nat.reduceLeDiff, Nat.reducePow, Nat.reduceBEq, boxIds, aResults, aResult, outAs, tupA, evNilCheck, aMove, MD, opds, evOp, asOper, one, two, evCallee, evAssign, aNew, evSlice, evField, evExtract, evFunc, pureOp, isCall, readOp, List.range', back, putBack, fuelR, closed, aStore, thawCells, place, pack, mapO, Nat.reduceEqDiff, Nat.reduceLT, maxNeed, i64_id, frzA, frzAs, memD, lentA, footC, ↓kc_toIntS, LA, Int.lt_irrefl, ↓gc_vec1, gc_vec1, z0As, z0A, eq_self, hlen]
    simp only [Int.toNat_natCast, List.drop_length, List.append_nil]
  | succ j ih =>
    intro i m d len h0 hi hm hd hlen
    obtain ⟨m, rfl⟩ : ∃ q, m = q + 1 := ⟨m - 1, by omega⟩
    subst hlen
    have hc : i < rs.length := by omega
    have hk : i.toNat < rs.length := by omega
    have hk2 : i.toNat < (refsV 1 d ++ nilsA (j + 1)).length := by simp [refsV_len, nilsA_len]; omega
    have hrow := short_at hs hk
    have e1 : (i + 1).toNat = i.toNat + 1 := by omega
    have e2 : i.toNat = d.length := by omega
    have hdl : (d ++ [rs.getD i.toNat []]).length ≤ 4294967296 := by simp; omega
    rw [step_toIntSS_0]
    simp only [S_toIntSS_0, Try.f94, slimF, slimL, lpOf, codeOf, Option.getD_some, slim, loops, List.length_nil, Nat.add_zero, Nat.zero_add, slimO, slimG, List.map_cons, List.map_nil, List.getElem?_cons_zero, List.getElem?_cons_succ, Option.bind_some, Bool.false_eq_true, if_false, if_true, List.length_cons, List.replicate, List.cons_append, List.nil_append, List.append_nil, Nat.reduceAdd, Nat.reduceSub, List.getD_cons_zero, List.getD_cons_succ]
    simp -implicitDefEqProofs (maxSteps := 2000000) (disch := first | assumption | (refine Shut.mk ?_; kernel_rfl) | omega | (simp only [List.getElem?_cons_zero, List.getElem?_cons_succ]; done) | (simp only [List.length_append, List.length_cons, List.length_nil, List.length_set, List.length_replicate, List.length_map, List.length_take, List.length_drop] <;> omega)) only [↓WD, ↓kAsg, ↓kRet, ↓reduceIte, ↓clash_free, ↓WDD, ↓kOpD_callv, WK, thawAt, evPick, aPut, leavesBody, outA, outS, outSs, idsA, idsL, mapA, calmAs, calmA, calmSl, calmPt, genOf, calmH, calmFrom, calmO, mapAs, maskB, isUndef, tidy, Int.reduceLT, Int.reduceLE, Int.reduceEq, Int.reduceNe, Int.reduceNeg, Int.reduceAdd, Int.reduceSub, Int.reduceMul, Int.reduceToNat, Nat.reduceAdd, Nat.reduceSub, aBuiltin, aAppend, aAppend0, aAppendV, isVec, bears, emptyArr, sliceAs, keeps, aBuildVec, aMakeVec, sliceCells, aBuildSlice, aIndexAddr, aLoad, runOf, ofCells, TY, LB, aLen, withInt, fillA, frzL, listWith, frz, frz0, deep, cellsA, setRun, okCell, List.replicate, notJunk, Nat.reduceMul, Nat.reduceLeDiff, Nat.reducePow, Nat.reduceBEq, boxIds, aResults, aResult, outAs, tupA, evNilCheck, aMove, MD, opds, evOp, asOper, one, two, evCallee, evAssign, aNew, evSlice, evField, evExtract, evFunc, pureOp, isCall, readOp, List.range', back, putBack, fuelR, closed, aStore, thawCells, place, pack, mapO, Nat.reduceEqDiff, Nat.reduceLT, maxNeed, i64_id, frzA, frzAs, memD, lentA, footC, ↓kc_toIntS, LA, hc, u_intss, c_ints, ↓st_vec0, set_vec, rowsO_snocI, rowsO_len, ↓gc_vec1, gc_vec1, z0As, z0A, eq_self]
    rw [ih (i + 1) m _ _ (by omega) (by omega) (by omega) (by simp; omega) rfl, e1, drop_go hk (d := [])]
    simp only [List.append_assoc, List.cons_append, List.nil_append]

theorem loop_toIntSS_top {R : Type} {L n m : Nat} (hn : 3 ≤ n) (hL : 2 ^ 60 ≤ L) {rs : List (List Int)} (hs : rowsShort rs) {k : Exit → List A → H → Option R} (hm : rs.length < m) :
    kLoop env (evCall env L n) L 0 [0, 0, 0, 0, 0, 0, 0, 1002] (true :: false :: true :: true :: true :: false :: false :: false :: false :: false :: false :: false :: false :: false :: false :: false :: false :: false :: false :: false :: false :: false :: false :: []) (lp_toIntSS 0) (false :: true :: false :: false :: false :: true :: true :: true :: true :: true :: true :: true :: true :: true :: true :: true :: true :: true :: true :: true :: true :: true :: true :: []) m (.d (.ivs rs.length (rowsD rs)) :: .junk :: .d .nils :: .sl 0 0 0 rs.length :: .d (.int .i64 0) :: .junk :: .junk :: .junk :: .junk :: .junk :: .junk :: .junk :: .junk :: .junk :: .junk :: .junk :: .junk :: .junk :: .junk :: .junk :: .junk :: .junk :: .junk :: []) [.vec (nilsA rs.length) 1 0] k
    = k (.exit 0) (.d (.ivs rs.length (rowsD rs)) :: .junk :: .d .nils :: .sl 0 0 0 rs.length :: .d (.int .i64 (rs.length)) :: .junk :: .junk :: .junk :: .junk :: .junk :: .junk :: .junk :: .junk :: .junk :: .junk :: .junk :: .junk :: .junk :: .junk :: .junk :: .junk :: .junk :: .junk :: []) (.vec (refsV 1 rs ++ nilsA 0) 1 0 :: rowsO rs) := by
  have h := loop_toIntSS (R := R) (L := L) hn hL hs (k := k) rs.length 0 m [] rs.length (by omega) (by omega) hm rfl rfl
  simpa [refsV, rowsO] using h

theorem gc_vecN {m : List Bool} {s : List A} {q : Nat} : gc 0 m s [.vec (nilsA q) 1 0] = match box (tidy m s) with
    | .mk s1 => if idsL s1 = [0] ∧ z0As s1 = true then (s1, [.vec (nilsA q) 1 0]) else gcO 0 m s [.vec (nilsA q) 1 0]
    | .no => ([], []) := gc_vec1 (rs := []) (q := q) (by simp)

theorem ev_toIntSS {L n : Nat} (hn : 4 ≤ n) (rs : List (List Int)) (hs : rowsShort rs) (hL : 2 ^ 60 ≤ L) : evCall env L n 94 [.d (.ivs rs.length (rowsD rs))] [] = some (.sl 0 0 0 rs.length, .vec (refsV 1 rs ++ nilsA 0) 1 0 :: rowsO rs) := by
  have hrl := hs.1
  obtain ⟨n, rfl⟩ : ∃ m, n = m + 1 := ⟨n - 1, by omega⟩
  rw [fn_toIntSS]
  simp only [S_toIntSS, Try.f94, slimF, slimL, lpOf, codeOf, Option.getD_some, slim, loops, List.length_nil, Nat.add_zero, Nat.zero_add, slimO, slimG, List.map_cons, List.map_nil, List.getElem?_cons_zero, List.getElem?_cons_succ, Option.bind_some, Bool.false_eq_true, if_false, if_true, List.length_cons, List.replicate, List.cons_append, List.nil_append, List.append_nil, Nat.reduceAdd, Nat.reduceSub, List.getD_cons_zero, List.getD_cons_succ]
  simp -implicitDefEqProofs (maxSteps := 2000000) (disch := first | assumption | (refine Shut.mk ?_; kernel_rfl) | omega | (simp only [List.getElem?_cons_zero, List.getElem?_cons_succ]; done) | (simp only [List.length_append, List.length_cons, List.length_nil, List.length_set, List.length_replicate, List.length_map, List.length_take, List.length_drop] <;> omega)) only [↓WD, ↓kAsg, ↓kRet, ↓reduceIte, ↓clash_free, ↓WDD, ↓kOpD_callv, WK, thawAt, evPick, aPut, leavesBody, outA, outS, outSs, idsA, idsL, mapA, calmAs, calmA, calmSl, calmPt, genOf, calmH, calmFrom, calmO, mapAs, maskB, isUndef, tidy, Int.reduceLT, Int.reduceLE, Int.reduceEq, Int.reduceNe, Int.reduceNeg, Int.reduceAdd, Int.reduceSub, Int.reduceMul, Int.reduceToNat, Nat.reduceAdd, Nat.reduceSub, aBuiltin, aAppend, aAppend0, aAppendV, isVec, bears, emptyArr, sliceAs, keeps, aBuildVec, aMakeVec, sliceCells, aBuildSlice, aIndexAddr, aLoad, runOf, ofCells, TY, LB, aLen, withInt, fillA, frzL, listWith, frz, frz0, deep, cellsA, setRun, okCell, List.replicate, notJunk, Nat.reduceMul, Nat.reduceLeDiff, Nat.reducePow, Nat.reduceBEq, boxIds, aResults, aResult, outAs, tupA, evNilCheck, aMove, MD, opds, evOp, asOper, one, two, evCallee, evAssign, aNew, evSlice, evField, evExtract, evFunc, pureOp, isCall, readOp, List.range', back, putBack, fuelR, closed, aStore, thawCells, place, pack, mapO, Nat.reduceEqDiff, Nat.reduceLT, maxNeed, i64_id, frzA, frzAs, memD, lentA, footC, ↓kc_toIntS, ↓loop_toIntSS, LA, u_intss, ↓make_vec, ↓loop_toIntSS_top, Int.toNat_natCast, ↓gc_vecN, gc_vecN, ↓keep_vec2, ↓trim_vec1, trim_vec1, z0As, z0A, eq_self]

/-! ### truth values -/

theorem u_bools : env.P.underlying 55 = some (.slice 4) := by kernel_rfl
theorem st_bool0 {h : H} {g e k : Nat} {l : List Bool} {b : Bool} (hk : k < l.length) : aStore env.P (.arr (bools l) e g :: h) 4 (.ptr 0 g k) (.d (.bool b)) = some (.arr (bools (l.set k b)) e g :: h) := by
  rw [store_cell (id := 0) rfl c_bool i_bool rfl (by rw [bools_length]; exact hk), bools_set hk]
  rfl
theorem make_bools {n : Int} {h : H} (h0 : 0 ≤ n) (h1 : n ≤ 4294967296) : aMakeSlice env.P h 55 n n = some (.sl h.length 0 0 n.toNat, h ++ [.arr (bools (List.replicate n.toNat false)) 1 0]) := by
  have hm : n ≤ (maxNeed : Nat) := by unfold maxNeed; omega
  have he : elemT env.P 55 = some 4 := by kernel_rfl
  have hz : zeroA env.P 4 = some (.d (.bool false)) := by kernel_rfl
  have hok : elemOk env.P 4 = true := by kernel_rfl
  simp only [aMakeSlice, he, hz, cellsA, dataOf, Option.map_some, hok, h0, hm, c_bool, Int.le_refl, and_self, if_true, flat_rep, bools, List.map_replicate]

theorem loop_toBoolS {R : Type} {L n : Nat} (hn : 1 ≤ n) {l : List Bool} (hl : l.length ≤ 4294967296) {k : Exit → List A → H → Option R} : ∀ (i : Int) (m : Nat) (o : List Bool) (len : Nat) (h0 : 0 ≤ i) (hi : i ≤ l.length) (hm : (l.length : Int) - i < m) (ho : o.length = l.length) (hlen : len = l.length),
    kLoop env (evCall env L n) L 0 [] (true :: false :: true :: true :: true :: false :: false :: false :: false :: false :: false :: false :: false :: false :: false :: false :: false :: false :: false :: false :: false :: false :: []) (lp_toBoolS 0) (false :: true :: false :: false :: false :: true :: true :: true :: true :: true :: true :: true :: true :: true :: true :: true :: true :: true :: true :: true :: true :: true :: []) m (.d (.ivs l.length (bools l)) :: .junk :: .d .nils :: .sl 0 0 0 len :: .d (.int .i64 i) :: .junk :: .junk :: .junk :: .junk :: .junk :: .junk :: .junk :: .junk :: .junk :: .junk :: .junk :: .junk :: .junk :: .junk :: .junk :: .junk :: .junk :: []) [.arr (bools o) 1 0] k
    = k (.exit 0) (.d (.ivs l.length (bools l)) :: .junk :: .d .nils :: .sl 0 0 0 l.length :: .d (.int .i64 (l.length)) :: .junk :: .junk :: .junk :: .junk :: .junk :: .junk :: .junk :: .junk :: .junk :: .junk :: .junk :: .junk :: .junk :: .junk :: .junk :: .junk :: .junk :: []) [.arr (bools (o.take i.toNat ++ l.drop i.toNat)) 1 0] := by
  intro i m o len h0 hi hm ho hlen
  obtain ⟨j, hj⟩ : ∃ j : Nat, (j : Int) = (l.length : Int) - i := ⟨((l.length : Int) - i).toNat, by omega⟩
  induction j generalizing i m o len with
  | zero =>
    obtain ⟨m, rfl⟩ : ∃ q, m = q + 1 := ⟨m - 1, by omega⟩
    obtain rfl : i = l.length := by omega
    rw [step_toBoolS_0]
    simp only [S_toBoolS_0, Try.f95, slimF, slimL, lpOf, codeOf, Option.getD_some, slim, loops, List.length_nil, Nat.add_zero, Nat.zero_add, slimO, slimG, List.map_cons, List.map_nil, List.getElem?_cons_zero, List.getElem?_cons_succ, Option.bind_some, Bool.false_eq_true, if_false, if_true, List.length_cons, List.replicate, List.cons_append, List.nil_append, List.append_nil, Nat.reduceAdd, Nat.reduceSub, List.getD_cons_zero, List.getD_cons_succ]
    simp -implicitDefEqProofs (maxSteps := 2000000) (disch := first | assumption | (refine Shut.mk ?_; kernel_rfl) | omega | (simp only [List.getElem?_cons_zero, List.getElem?_cons_succ]; done) | (simp only [List.length_append, List.length_cons, List.length_nil, List.length_set, List.length_replicate, List.length_map, List.length_take, List.length_drop] <;> omega)) only [↓WD, ↓kAsg, ↓kRet, ↓reduceIte, ↓clash_free, ↓WDD, ↓kOpD_callv, WK, thawAt, evPick, aPut, leavesBody, outA, outS, outSs, idsA, idsL, mapA, calmAs, calmA, calmSl, calmPt, genOf, calmH, calmFrom, calmO, mapAs, maskB, isUndef, tidy, Int.reduceLT, Int.reduceLE, Int.reduceEq, Int.reduceNe, Int.reduceNeg, Int.reduceAdd, Int.reduceSub, Int.reduceMul, Int.reduceToNat, Nat.reduceAdd, Nat.reduceSub, aBuiltin, aAppend, aAppend0, aAppendV, isVec, bears, emptyArr, sliceAs, keeps, aBuildVec, aMakeVec, sliceCells, aBuildSlice, aIndexAddr, aLoad, runOf, ofCells, TY, LB, aLen, withInt, fillA, frzL, listWith, frz, frz0, deep, cellsA, setRun, okCell, List.replicate, notJunk, Nat.reduceMul, Nat.reduceLeDiff, Nat.reducePow, Nat.reduceBEq, boxIds, aResults, aResult, outAs, tupA, evNilCheck, aMove, MD, opds, evOp, asOper, one, two, evCallee, evAssign, aNew, evSlice, evField, evExtract, evFunc, pureOp, isCall, readOp, List.range', back, putBack, fuelR, closed, aStore, thawCells, place, pack, mapO, Nat.reduceEqDiff, Nat.reduceLT, maxNeed, i64_id, frzA, frzAs, memD, lentA, footC, LA, Int.lt_irrefl]
    have e1 : o.take l.length = o := List.take_of_length_le (by omega)
    simp only [Int.toNat_natCast, List.drop_length, e1, List.append_nil, hlen]
  | succ j ih =>
    obtain ⟨m, rfl⟩ : ∃ q, m = q + 1 := ⟨m - 1, by omega⟩
    have hc : i < l.length := by omega
    have hk : i.toNat < l.length := by omega
    have hk2 : i.toNat < o.length := by omega
    have hc2 : i < (len : Int) := by omega
    have e1 : (i + 1).toNat = i.toNat + 1 := by omega
    rw [step_toBoolS_0]
    simp only [S_toBoolS_0, Try.f95, slimF, slimL, lpOf, codeOf, Option.getD_some, slim, loops, List.length_nil, Nat.add_zero, Nat.zero_add, slimO, slimG, List.map_cons, List.map_nil, List.getElem?_cons_zero, List.getElem?_cons_succ, Option.bind_some, Bool.false_eq_true, if_false, if_true, List.length_cons, List.replicate, List.cons_append, List.nil_append, List.append_nil, Nat.reduceAdd, Nat.reduceSub, List.getD_cons_zero, List.getD_cons_succ]
    simp -implicitDefEqProofs (maxSteps := 2000000) (disch := first | assumption | (refine Shut.mk ?_; kernel_rfl) | omega | (simp only [List.getElem?_cons_zero, List.getElem?_cons_succ]; done) | (simp only [List.length_append, List.length_cons, List.length_nil, List.length_set, List.length_replicate, List.length_map, List.length_take, List.length_drop] <;> omega)) only [↓WD, ↓kAsg, ↓kRet, ↓reduceIte, ↓clash_free, ↓WDD, ↓kOpD_callv, WK, thawAt, evPick, aPut, leavesBody, outA, outS, outSs, idsA, idsL, mapA, calmAs, calmA, calmSl, calmPt, genOf, calmH, calmFrom, calmO, mapAs, maskB, isUndef, tidy, Int.reduceLT, Int.reduceLE, Int.reduceEq, Int.reduceNe, Int.reduceNeg, Int.reduceAdd, Int.reduceSub, Int.reduceMul, Int.reduceToNat, Nat.reduceAdd, Nat.reduceSub, aBuiltin, aAppend, aAppend0, aAppendV, isVec, bears, emptyArr, sliceAs, keeps, aBuildVec, aMakeVec, sliceCells, aBuildSlice, aIndexAddr, aLoad, runOf, ofCells, TY, LB, aLen, withInt, fillA, frzL, listWith, frz, frz0, deep, cellsA, setRun, okCell, List.replicate, notJunk, Nat.reduceMul, Nat.reduceLeDiff, Nat.reducePow, Nat.reduceBEq, boxIds, aResults, aResult, outAs, tupA, evNilCheck, aMove, MD, opds, evOp, asOper, one, two, evCallee, evAssign, aNew, evSlice, evField, evExtract, evFunc, pureOp, isCall, readOp, List.range', back, putBack, fuelR, closed, aStore, thawCells, place, pack, mapO, Nat.reduceEqDiff, Nat.reduceLT, maxNeed, i64_id, frzA, frzAs, memD, lentA, footC, LA, hc, hc2, u_bools, c_bool, ↓st_bool0, ↓ih]
    rw [drop_go hk (d := false), e1, set_go1 hk2]

theorem ev_toBoolS {L n : Nat} (hn : 2 ≤ n) (l : List Bool) (hl : l.length ≤ 4294967296) (hL : 2 ^ 60 ≤ L) : evCall env L n 95 [.d (.ivs l.length (bools l))] [] = some (.sl 0 0 0 l.length, [.arr (bools l) 1 0]) := by
  obtain ⟨n, rfl⟩ : ∃ m, n = m + 1 := ⟨n - 1, by omega⟩
  rw [fn_toBoolS]
  simp only [S_toBoolS, Try.f95, slimF, slimL, lpOf, codeOf, Option.getD_some, slim, loops, List.length_nil, Nat.add_zero, Nat.zero_add, slimO, slimG, List.map_cons, List.map_nil, List.getElem?_cons_zero, List.getElem?_cons_succ, Option.bind_some, Bool.false_eq_true, if_false, if_true, List.length_cons, List.replicate, List.cons_append, List.nil_append, List.append_nil, Nat.reduceAdd, Nat.reduceSub, List.getD_cons_zero, List.getD_cons_succ]
  simp -implicitDefEqProofs (maxSteps := 2000000) (disch := first | assumption | (refine Shut.mk ?_; kernel_rfl) | omega | (simp only [List.getElem?_cons_zero, List.getElem?_cons_succ]; done) | (simp only [List.length_append, List.length_cons, List.length_nil, List.length_set, List.length_replicate, List.length_map, List.length_take, List.length_drop] <;> omega)) only [↓WD, ↓kAsg, ↓kRet, ↓reduceIte, ↓clash_free, ↓WDD, ↓kOpD_callv, WK, thawAt, evPick, aPut, leavesBody, outA, outS, outSs, idsA, idsL, mapA, calmAs, calmA, calmSl, calmPt, genOf, calmH, calmFrom, calmO, mapAs, maskB, isUndef, tidy, Int.reduceLT, Int.reduceLE, Int.reduceEq, Int.reduceNe, Int.reduceNeg, Int.reduceAdd, Int.reduceSub, Int.reduceMul, Int.reduceToNat, Nat.reduceAdd, Nat.reduceSub, aBuiltin, aAppend, aAppend0, aAppendV, isVec, bears, emptyArr, sliceAs, keeps, aBuildVec, aMakeVec, sliceCells, aBuildSlice, aIndexAddr, aLoad, runOf, ofCells, TY, LB, aLen, withInt, fillA, frzL, listWith, frz, frz0, deep, cellsA, setRun, okCell, List.replicate, notJunk, Nat.reduceMul, Nat.reduceLeDiff, Nat.reducePow, Nat.reduceBEq, boxIds, aResults, aResult, outAs, tupA, evNilCheck, aMove, MD, opds, evOp, asOper, one, two, evCallee, evAssign, aNew, evSlice, evField, evExtract, evFunc, pureOp, isCall, readOp, List.range', back, putBack, fuelR, closed, aStore, thawCells, place, pack, mapO, Nat.reduceEqDiff, Nat.reduceLT, maxNeed, i64_id, frzA, frzAs, memD, lentA, footC, LA, u_bools, ↓make_bools, ↓loop_toBoolS, Int.toNat_natCast, Int.toNat_zero]

theorem kc_toBoolS {R : Type} {L n : Nat} {hq : H} {k : A → H → Option R} (hn : 2 ≤ n) (l : List Bool) (hl : l.length ≤ 4294967296) (hL : 2 ^ 60 ≤ L) : kCall env (evCall env L n) hq 95 [.d (.ivs l.length (bools l))] k = k (.sl hq.length 0 0 l.length) (hq ++ [.arr (bools l) 1 0]) := by
  rw [kCall_new rfl mode_toBoolS (ev_toBoolS hn l hl hL)]
  simp [mapA, back, mapO]

/-! ### equal -/

theorem loop_eqIntS {R : Type} {L n : Nat} (hn : 1 ≤ n) {l : List Int} (hl : l.length ≤ 4294967296) {k : Exit → List A → H → Option R} : ∀ (i : Int) (m : Nat) (h0 : 0 ≤ i) (hi : i ≤ l.length) (hm : (l.length : Int) - i < m),
    kLoop env (evCall env L n) L 0 [] (true :: true :: false :: false :: true :: true :: false :: false :: false :: false :: false :: false :: false :: false :: false :: false :: false :: false :: false :: false :: false :: false :: false :: false :: false :: false :: []) (lp_eqIntS 0) (false :: false :: true :: true :: false :: false :: true :: true :: true :: true :: true :: true :: true :: true :: true :: true :: true :: true :: true :: true :: true :: true :: true :: true :: true :: true :: []) m (.d (.ivs l.length (ints l)) :: .d (.ivs l.length (ints l)) :: .junk :: .junk :: .d (.bool false) :: .d (.int .i64 i) :: .junk :: .junk :: .junk :: .junk :: .junk :: .junk :: .junk :: .junk :: .junk :: .junk :: .junk :: .junk :: .junk :: .junk :: .junk :: .junk :: .junk :: .junk :: .junk :: .junk :: []) [] k
    = k (.exit 0) (.d (.ivs l.length (ints l)) :: .d (.ivs l.length (ints l)) :: .junk :: .junk :: .d (.bool false) :: .d (.int .i64 (l.length)) :: .junk :: .junk :: .junk :: .junk :: .junk :: .junk :: .junk :: .junk :: .junk :: .junk :: .junk :: .junk :: .junk :: .junk :: .junk :: .junk :: .junk :: .junk :: .junk :: .junk :: []) [] := by
  intro i m h0 hi hm
  obtain ⟨j, hj⟩ : ∃ j : Nat, (j : Int) = (l.length : Int) - i := ⟨((l.length : Int) - i).toNat, by omega⟩
  induction j generalizing i m with
  | zero =>
    obtain ⟨m, rfl⟩ : ∃ q, m = q + 1 := ⟨m - 1, by omega⟩
    obtain rfl : i = l.length := by omega
    rw [step_eqIntS_0]
    simp only [S_eqIntS_0, Try.f133, slimF, slimL, lpOf, codeOf, Option.getD_some, slim, loops, List.length_nil, Nat.add_zero, Nat.zero_add, slimO, slimG, List.map_cons, List.map_nil, List.getElem?_cons_zero, List.getElem?_cons_succ, Option.bind_some, Bool.false_eq_true, if_false, if_true, List.length_cons, List.replicate, List.cons_append, List.nil_append, List.append_nil, Nat.reduceAdd, Nat.reduceSub, List.getD_cons_zero, List.getD_cons_succ]
    simp -implicitDefEqProofs (maxSteps := 2000000) (disch := first | assumption | (refine Shut.mk ?_; kernel_rfl) | omega | (simp only [List.getElem?_cons_zero, List.getElem?_cons_succ]; done) | (simp only [List.length_append, List.length_cons, List.length_nil, List.length_set, List.length_replicate, List.length_map, List.length_take, List.length_drop] <;> omega)) only [↓WD, ↓kAsg, ↓kRet, ↓reduceIte, ↓clash_free, ↓WDD, ↓kOpD_callv, WK, thawAt, evPick, aPut, leavesBody, outA, outS, outSs, idsA, idsL, mapA, calmAs, calmA, calmSl, calmPt, genOf, calmH, calmFrom, calmO, mapAs, maskB, isUndef, tidy, Int.reduceLT, Int.reduceLE, Int.reduceEq, Int.reduceNe, Int.reduceNeg, Int.reduceAdd, Int.reduceSub, Int.reduceMul, Int.reduceToNat, Nat.reduceAdd, Nat.reduceSub, aBuiltin, aAppend, aAppend0, aAppendV, isVec, bears, emptyArr, sliceAs, keeps, aBuildVec, aMakeVec, sliceCells, aBuildSlice, aIndexAddr, aLoad, runOf, ofCells, TY, LB, aLen, withInt, fillA, frzL, listWith, frz, frz0, deep, cellsA, setRun, okCell, List.replicate, notJunk, Nat.reduceMul, Nat.reduceLeDiff, Nat.reducePow, Nat.reduceBEq, boxIds, aResults, aResult, outAs, tupA, evNilCheck, aMove, MD, opds, evOp, asOper, one, two, evCallee, evAssign, aNew, evSlice, evField, evExtract, evFunc, pureOp, isCall, readOp, List.range', back, putBack, fuelR, closed, aStore, thawCells, place, pack, mapO, Nat.reduceEqDiff, Nat.reduceLT, maxNeed, i64_id, frzA, frzAs, memD, lentA, footC, LA, Int.lt_irrefl]
  | succ j ih =>
    obtain ⟨m, rfl⟩ : ∃ q, m = q + 1 := ⟨m - 1, by omega⟩
    have hc : i < l.length := by omega
    have hk : i.toNat < l.length := by omega
    rw [step_eqIntS_0]
    simp only [S_eqIntS_0, Try.f133, slimF, slimL, lpOf, codeOf, Option.getD_some, slim, loops, List.length_nil, Nat.add_zero, Nat.zero_add, slimO, slimG, List.map_cons, List.map_nil, List.getElem?_cons_zero, List.getElem?_cons_succ, Option.bind_some, Bool.false_eq_true, if_false, if_true, List.length_cons, List.replicate, List.cons_append, List.nil_append, List.append_nil, Nat.reduceAdd, Nat.reduceSub, List.getD_cons_zero, List.getD_cons_succ]
    simp -implicitDefEqProofs (maxSteps := 2000000) (disch := first | assumption | (refine Shut.mk ?_; kernel_rfl) | omega | (simp only [List.getElem?_cons_zero, List.getElem?_cons_succ]; done) | (simp only [List.length_append, List.length_cons, List.length_nil, List.length_set, List.length_replicate, List.length_map, List.length_take, List.length_drop] <;> omega)) only [↓WD, ↓kAsg, ↓kRet, ↓reduceIte, ↓clash_free, ↓WDD, ↓kOpD_callv, WK, thawAt, evPick, aPut, leavesBody, outA, outS, outSs, idsA, idsL, mapA, calmAs, calmA, calmSl, calmPt, genOf, calmH, calmFrom, calmO, mapAs, maskB, isUndef, tidy, Int.reduceLT, Int.reduceLE, Int.reduceEq, Int.reduceNe, Int.reduceNeg, Int.reduceAdd, Int.reduceSub, Int.reduceMul, Int.reduceToNat, Nat.reduceAdd, Nat.reduceSub, aBuiltin, aAppend, aAppend0, aAppendV, isVec, bears, emptyArr, sliceAs, keeps, aBuildVec, aMakeVec, sliceCells, aBuildSlice, aIndexAddr, aLoad, runOf, ofCells, TY, LB, aLen, withInt, fillA, frzL, listWith, frz, frz0, deep, cellsA, setRun, okCell, List.replicate, notJunk, Nat.reduceMul, Nat.reduceLeDiff, Nat.reducePow, Nat.reduceBEq, boxIds, aResults, aResult, outAs, tupA, evNilCheck, aMove, MD, opds, evOp, asOper, one, two, evCallee, evAssign, aNew, evSlice, evField, evExtract, evFunc, pureOp, isCall, readOp, List.range', back, putBack, fuelR, closed, aStore, thawCells, place, pack, mapO, Nat.reduceEqDiff, Nat.reduceLT, maxNeed, i64_id, frzA, frzAs, memD, lentA, footC, LA, hc, u_ints, c_int, ↓ih]

theorem ev_eqIntS {L n : Nat} (hn : 2 ≤ n) (l : List Int) (hl : l.length ≤ 4294967296) (hL : 2 ^ 60 ≤ L) : evCall env L n 133 [.d (.ivs l.length (ints l)), .d (.ivs l.length (ints l))] [] = some (.d (.bool true), []) := by
  obtain ⟨n, rfl⟩ : ∃ m, n = m + 1 := ⟨n - 1, by omega⟩
  rw [fn_eqIntS]
  simp only [S_eqIntS, Try.f133, slimF, slimL, lpOf, codeOf, Option.getD_some, slim, loops, List.length_nil, Nat.add_zero, Nat.zero_add, slimO, slimG, List.map_cons, List.map_nil, List.getElem?_cons_zero, List.getElem?_cons_succ, Option.bind_some, Bool.false_eq_true, if_false, if_true, List.length_cons, List.replicate, List.cons_append, List.nil_append, List.append_nil, Nat.reduceAdd, Nat.reduceSub, List.getD_cons_zero, List.getD_cons_succ]
  simp -implicitDefEqProofs (maxSteps := 2000000) (disch := first | assumption | (refine Shut.mk ?_; kernel_rfl) | omega | (simp only [List.getElem?_cons_zero, List.getElem?_cons_succ]; done) | (simp only [List.length_append, List.length_cons, List.length_nil, List.length_set, List.length_replicate, List.length_map, List.length_take, List.length_drop] <;> omega)) only [↓WD, ↓kAsg, ↓kRet, ↓reduceIte, ↓clash_free, ↓WDD, ↓kOpD_callv, WK, thawAt, evPick, aPut, leavesBody, outA, outS, outSs, idsA, idsL, mapA, calmAs, calmA, calmSl, calmPt, genOf, calmH, calmFrom, calmO, mapAs, maskB, isUndef, tidy, Int.reduceLT, Int.reduceLE, Int.reduceEq, Int.reduceNe, Int.reduceNeg, Int.reduceAdd, Int.reduceSub, Int.reduceMul, Int.reduceToNat, Nat.reduceAdd, Nat.reduceSub, aBuiltin, aAppend, aAppend0, aAppendV, isVec, bears, emptyArr, sliceAs, keeps, aBuildVec, aMakeVec, sliceCells, aBuildSlice, aIndexAddr, aLoad, runOf, ofCells, TY, LB, aLen, withInt, fillA, frzL, listWith, frz, frz0, deep, cellsA, setRun, okCell, List.replicate, notJunk, Nat.reduceMul, Nat.reduceLeDiff, Nat.reducePow, Nat.reduceBEq, boxIds, aResults, aResult, outAs, tupA, evNilCheck, aMove, MD, opds, evOp, asOper, one, two, evCallee, evAssign, aNew, evSlice, evField, evExtract, evFunc, pureOp, isCall, readOp, List.range', back, putBack, fuelR, closed, aStore, thawCells, place, pack, mapO, Nat.reduceEqDiff, Nat.reduceLT, maxNeed, i64_id, frzA, frzAs, memD, lentA, footC, ↓loop_eqIntS, LA]
theorem kc_eqIntS {R : Type} {L n : Nat} {hq : H} {k : A → H → Option R} (hn : 2 ≤ n) (l : List Int) (hl : l.length ≤ 4294967296) (hL : 2 ^ 60 ≤ L) : kCall env (evCall env L n) hq 133 [.d (.ivs l.length (ints l)), .d (.ivs l.length (ints l))] k = k (.d (.bool true)) hq :=
  kCall_still rfl (ev_eqIntS hn l hl hL) rfl (.inl rfl)
theorem kl_eqIntS {R : Type} {L n : Nat} {k : A → Option R} (hn : 2 ≤ n) (l : List Int) (hl : l.length ≤ 4294967296) (hL : 2 ^ 60 ≤ L) : kLent (evCall env L n) 133 [.d (.ivs l.length (ints l)), .d (.ivs l.length (ints l))] k = k (.d (.bool true)) :=
  kLent_ev (ev_eqIntS hn l hl hL) rfl
theorem kv_eqIntS_1 {R : Type} {L n : Nat} {hq : H} {k : A → H → Option R} {id0 g0 o0 len0 : Nat} {l : List Int} : kCall env (evCall env L n) hq 133 [.sl id0 g0 o0 len0, .d (.ivs l.length (ints l))] k = match box (lentA hq [.sl id0 g0 o0 len0, .d (.ivs l.length (ints l))]) with
    | .mk (some fs) => kLent (evCall env L n) 133 fs fun r => k r hq
    | _ => none := kCall_lent mode_eqIntS
theorem kv_eqIntS_2 {R : Type} {L n : Nat} {hq : H} {k : A → H → Option R} {id1 g1 o1 len1 : Nat} {l : List Int} : kCall env (evCall env L n) hq 133 [.d (.ivs l.length (ints l)), .sl id1 g1 o1 len1] k = match box (lentA hq [.d (.ivs l.length (ints l)), .sl id1 g1 o1 len1]) with
    | .mk (some fs) => kLent (evCall env L n) 133 fs fun r => k r hq
    | _ => none := kCall_lent mode_eqIntS
theorem kv_eqIntS_3 {R : Type} {L n : Nat} {hq : H} {k : A → H → Option R} {id1 g1 o1 len1 : Nat} {id0 g0 o0 len0 : Nat}  : kCall env (evCall env L n) hq 133 [.sl id0 g0 o0 len0, .sl id1 g1 o1 len1] k = match box (lentA hq [.sl id0 g0 o0 len0, .sl id1 g1 o1 len1]) with
    | .mk (some fs) => kLent (evCall env L n) 133 fs fun r => k r hq
    | _ => none := kCall_lent mode_eqIntS

theorem loop_eqBoolS {R : Type} {L n : Nat} (hn : 1 ≤ n) {l : List Bool} (hl : l.length ≤ 4294967296) {k : Exit → List A → H → Option R} : ∀ (i : Int) (m : Nat) (h0 : 0 ≤ i) (hi : i ≤ l.length) (hm : (l.length : Int) - i < m),
    kLoop env (evCall env L n) L 0 [] (true :: true :: false :: false :: true :: true :: false :: false :: false :: false :: false :: false :: false :: false :: false :: false :: false :: false :: false :: false :: false :: false :: false :: false :: false :: false :: []) (lp_eqBoolS 0) (false :: false :: true :: true :: false :: false :: true :: true :: true :: true :: true :: true :: true :: true :: true :: true :: true :: true :: true :: true :: true :: true :: true :: true :: true :: true :: []) m (.d (.ivs l.length (bools l)) :: .d (.ivs l.length (bools l)) :: .junk :: .junk :: .d (.bool false) :: .d (.int .i64 i) :: .junk :: .junk :: .junk :: .junk :: .junk :: .junk :: .junk :: .junk :: .junk :: .junk :: .junk :: .junk :: .junk :: .junk :: .junk :: .junk :: .junk :: .junk :: .junk :: .junk :: []) [] k
    = k (.exit 0) (.d (.ivs l.length (bools l)) :: .d (.ivs l.length (bools l)) :: .junk :: .junk :: .d (.bool false) :: .d (.int .i64 (l.length)) :: .junk :: .junk :: .junk :: .junk :: .junk :: .junk :: .junk :: .junk :: .junk :: .junk :: .junk :: .junk :: .junk :: .junk :: .junk :: .junk :: .junk :: .junk :: .junk :: .junk :: []) [] := by
  intro i m h0 hi hm
  obtain ⟨j, hj⟩ : ∃ j : Nat, (j : Int) = (l.length : Int) - i := ⟨((l.length : Int) - i).toNat, by omega⟩
  induction j generalizing i m with
  | zero =>
    obtain ⟨m, rfl⟩ : ∃ q, m = q + 1 := ⟨m - 1, by omega⟩
    obtain rfl : i = l.length := by omega
    rw [step_eqBoolS_0]
    simp only [S_eqBoolS_0, Try.f99, slimF, slimL, lpOf, codeOf, Option.getD_some, slim, loops, List.length_nil, Nat.add_zero, Nat.zero_add, slimO, slimG, List.map_cons, List.map_nil, List.getElem?_cons_zero, List.getElem?_cons_succ, Option.bind_some, Bool.false_eq_true, if_false, if_true, List.length_cons, List.replicate, List.cons_append, List.nil_append, List.append_nil, Nat.reduceAdd, Nat.reduceSub, List.getD_cons_zero, List.getD_cons_succ]
    simp -implicitDefEqProofs (maxSteps := 2000000) (disch := first | assumption | (refine Shut.mk ?_; kernel_rfl) | omega | (simp only [List.getElem?_cons_zero, List.getElem?_cons_succ]; done) | (simp only [List.length_append, List.length_cons, List.length_nil, List.length_set, List.length_replicate, List.length_map, List.length_take, List.length_drop] <;> omega)) only [↓WD, ↓kAsg, ↓kRet, ↓reduceIte, ↓clash_free, ↓WDD, ↓kOpD_callv, WK, thawAt, evPick, aPut, leavesBody, outA, outS, outSs, idsA, idsL, mapA, calmAs, calmA, calmSl, calmPt, genOf, calmH, calmFrom, calmO, mapAs, maskB, isUndef, tidy, Int.reduceLT, Int.reduceLE, Int.reduceEq, Int.reduceNe, Int.reduceNeg, Int.reduceAdd, Int.reduceSub, Int.reduceMul, Int.reduceToNat, Nat.reduceAdd, Nat.reduceSub, aBuiltin, aAppend, aAppend0, aAppendV, isVec, bears, emptyArr, sliceAs, keeps, aBuildVec, aMakeVec, sliceCells, aBuildSlice, aIndexAddr, aLoad, runOf, ofCells, TY, LB, aLen, withInt, fillA, frzL, listWith, frz, frz0, deep, cellsA, setRun, okCell, List.replicate, notJunk, Nat.reduceMul, Nat.reduceLeDiff, Nat.reducePow, Nat.reduceBEq, boxIds, aResults, aResult, outAs, tupA, evNilCheck, aMove, MD, opds, evOp, asOper, one, two, evCallee, evAssign, aNew, evSlice, evField, evExtract, evFunc, pureOp, isCall, readOp, List.range', back, putBack, fuelR, closed, aStore, thawCells, place, pack, mapO, Nat.reduceEqDiff, Nat.reduceLT, maxNeed, i64_id, frzA, frzAs, memD, lentA, footC, LA, Int.lt_irrefl]
  | succ j ih =>
    obtain ⟨m, rfl⟩ : ∃ q, m = q + 1 := ⟨m - 1, by omega⟩
    have hc : i < l.length := by omega
    have hk : i.toNat < l.length := by omega
    rw [step_eqBoolS_0]
    simp only [S_eqBoolS_0, Try.f99, slimF, slimL, lpOf, codeOf, Option.getD_some, slim, loops, List.length_nil, Nat.add_zero, Nat.zero_add, slimO, slimG, List.map_cons, List.map_nil, List.getElem?_cons_zero, List.getElem?_cons_succ, Option.bind_some, Bool.false_eq_true, if_false, if_true, List.length_cons, List.replicate, List.cons_append, List.nil_append, List.append_nil, Nat.reduceAdd, Nat.reduceSub, List.getD_cons_zero, List.getD_cons_succ]
    simp -implicitDefEqProofs (maxSteps := 2000000) (disch := first | assumption | (refine Shut.mk ?_; kernel_rfl) | omega | (simp only [List.getElem?_cons_zero, List.getElem?_cons_succ]; done) | (simp only [List.length_append, List.length_cons, List.length_nil, List.length_set, List.length_replicate, List.length_map, List.length_take, List.length_drop] <;> omega)) only [↓WD, ↓kAsg, ↓kRet, ↓reduceIte, ↓clash_free, ↓WDD, ↓kOpD_callv, WK, thawAt, evPick, aPut, leavesBody, outA, outS, outSs, idsA, idsL, mapA, calmAs, calmA, calmSl, calmPt, genOf, calmH, calmFrom, calmO, mapAs, maskB, isUndef, tidy, Int.reduceLT, Int.reduceLE, Int.reduceEq, Int.reduceNe, Int.reduceNeg, Int.reduceAdd, Int.reduceSub, Int.reduceMul, Int.reduceToNat, Nat.reduceAdd, Nat.reduceSub, aBuiltin, aAppend, aAppend0, aAppendV, isVec, bears, emptyArr, sliceAs, keeps, aBuildVec, aMakeVec, sliceCells, aBuildSlice, aIndexAddr, aLoad, runOf, ofCells, TY, LB, aLen, withInt, fillA, frzL, listWith, frz, frz0, deep, cellsA, setRun, okCell, List.replicate, notJunk, Nat.reduceMul, Nat.reduceLeDiff, Nat.reducePow, Nat.reduceBEq, boxIds, aResults, aResult, outAs, tupA, evNilCheck, aMove, MD, opds, evOp, asOper, one, two, evCallee, evAssign, aNew, evSlice, evField, evExtract, evFunc, pureOp, isCall, readOp, List.range', back, putBack, fuelR, closed, aStore, thawCells, place, pack, mapO, Nat.reduceEqDiff, Nat.reduceLT, maxNeed, i64_id, frzA, frzAs, memD, lentA, footC, LA, hc, u_bools, c_bool, evBin_neqB, evBin_eqlB, ↓ih]

theorem ev_eqBoolS {L n : Nat} (hn : 2 ≤ n) (l : List Bool) (hl : l.length ≤ 4294967296) (hL : 2 ^ 60 ≤ L) : evCall env L n 99 [.d (.ivs l.length (bools l)), .d (.ivs l.length (bools l))] [] = some (.d (.bool true), []) := by
  obtain ⟨n, rfl⟩ : ∃ m, n = m + 1 := ⟨n - 1, by omega⟩
  rw [fn_eqBoolS]
  simp only [S_eqBoolS, Try.f99, slimF, slimL, lpOf, codeOf, Option.getD_some, slim, loops, List.length_nil, Nat.add_zero, Nat.zero_add, slimO, slimG, List.map_cons, List.map_nil, List.getElem?_cons_zero, List.getElem?_cons_succ, Option.bind_some, Bool.false_eq_true, if_false, if_true, List.length_cons, List.replicate, List.cons_append, List.nil_append, List.append_nil, Nat.reduceAdd, Nat.reduceSub, List.getD_cons_zero, List.getD_cons_succ]
  simp -implicitDefEqProofs (maxSteps := 2000000) (disch := first | assumption | (refine Shut.mk ?_; kernel_rfl) | omega | (simp only [List.getElem?_cons_zero, List.getElem?_cons_succ]; done) | (simp only [List.length_append, List.length_cons, List.length_nil, List.length_set, List.length_replicate, List.length_map, List.length_take, List.length_drop] <;> omega)) only [↓WD, ↓kAsg, ↓kRet, ↓reduceIte, ↓clash_free, ↓WDD, ↓kOpD_callv, WK, thawAt, evPick, aPut, leavesBody, outA, outS, outSs, idsA, idsL, mapA, calmAs, calmA, calmSl, calmPt, genOf, calmH, calmFrom, calmO, mapAs, maskB, isUndef, tidy, Int.reduceLT, Int.reduceLE, Int.reduceEq, Int.reduceNe, Int.reduceNeg, Int.reduceAdd, Int.reduceSub, Int.reduceMul, Int.reduceToNat, Nat.reduceAdd, Nat.reduceSub, aBuiltin, aAppend, aAppend0, aAppendV, isVec, bears, emptyArr, sliceAs, keeps, aBuildVec, aMakeVec, sliceCells, aBuildSlice, aIndexAddr, aLoad, runOf, ofCells, TY, LB, aLen, withInt, fillA, frzL, listWith, frz, frz0, deep, cellsA, setRun, okCell, List.replicate, notJunk, Nat.reduceMul, Nat.reduceLeDiff, Nat.reducePow, Nat.reduceBEq, boxIds, aResults, aResult, outAs, tupA, evNilCheck, aMove, MD, opds, evOp, asOper, one, two, evCallee, evAssign, aNew, evSlice, evField, evExtract, evFunc, pureOp, isCall, readOp, List.range', back, putBack, fuelR, closed, aStore, thawCells, place, pack, mapO, Nat.reduceEqDiff, Nat.reduceLT, maxNeed, i64_id, frzA, frzAs, memD, lentA, footC, ↓loop_eqBoolS, LA]
theorem kc_eqBoolS {R : Type} {L n : Nat} {hq : H} {k : A → H → Option R} (hn : 2 ≤ n) (l : List Bool) (hl : l.length ≤ 4294967296) (hL : 2 ^ 60 ≤ L) : kCall env (evCall env L n) hq 99 [.d (.ivs l.length (bools l)), .d (.ivs l.length (bools l))] k = k (.d (.bool true)) hq :=
  kCall_still rfl (ev_eqBoolS hn l hl hL) rfl (.inl rfl)
theorem kl_eqBoolS {R : Type} {L n : Nat} {k : A → Option R} (hn : 2 ≤ n) (l : List Bool) (hl : l.length ≤ 4294967296) (hL : 2 ^ 60 ≤ L) : kLent (evCall env L n) 99 [.d (.ivs l.length (bools l)), .d (.ivs l.length (bools l))] k = k (.d (.bool true)) :=
  kLent_ev (ev_eqBoolS hn l hl hL) rfl
theorem kv_eqBoolS_1 {R : Type} {L n : Nat} {hq : H} {k : A → H → Option R} {id0 g0 o0 len0 : Nat} {l : List Bool} : kCall env (evCall env L n) hq 99 [.sl id0 g0 o0 len0, .d (.ivs l.length (bools l))] k = match box (lentA hq [.sl id0 g0 o0 len0, .d (.ivs l.length (bools l))]) with
    | .mk (some fs) => kLent (evCall env L n) 99 fs fun r => k r hq
    | _ => none := kCall_lent mode_eqBoolS
theorem kv_eqBoolS_2 {R : Type} {L n : Nat} {hq : H} {k : A → H → Option R} {id1 g1 o1 len1 : Nat} {l : List Bool} : kCall env (evCall env L n) hq 99 [.d (.ivs l.length (bools l)), .sl id1 g1 o1 len1] k = match box (lentA hq [.d (.ivs l.length (bools l)), .sl id1 g1 o1 len1]) with
    | .mk (some fs) => kLent (evCall env L n) 99 fs fun r => k r hq
    | _ => none := kCall_lent mode_eqBoolS
theorem kv_eqBoolS_3 {R : Type} {L n : Nat} {hq : H} {k : A → H → Option R} {id1 g1 o1 len1 : Nat} {id0 g0 o0 len0 : Nat}  : kCall env (evCall env L n) hq 99 [.sl id0 g0 o0 len0, .sl id1 g1 o1 len1] k = match box (lentA hq [.sl id0 g0 o0 len0, .sl id1 g1 o1 len1]) with
    | .mk (some fs) => kLent (evCall env L n) 99 fs fun r => k r hq
    | _ => none := kCall_lent mode_eqBoolS

theorem loop_eqIntSS {R : Type} {L n : Nat} (hn : 3 ≤ n) (hL : 2 ^ 60 ≤ L) {l : List (List Int)} (hs : rowsShort l) {k : Exit → List A → H → Option R} : ∀ (i : Int) (m : Nat) (h0 : 0 ≤ i) (hi : i ≤ l.length) (hm : (l.length : Int) - i < m),
    kLoop env (evCall env L n) L 0 [] (true :: true :: false :: false :: true :: true :: false :: false :: false :: false :: false :: false :: false :: false :: false :: false :: false :: false :: false :: false :: false :: false :: false :: false :: false :: false :: false :: []) (lp_eqIntSS 0) (false :: false :: true :: true :: false :: false :: true :: true :: true :: true :: true :: true :: true :: true :: true :: true :: true :: true :: true :: true :: true :: true :: true :: true :: true :: true :: true :: []) m (.d (.ivs l.length (rowsD l)) :: .d (.ivs l.length (rowsD l)) :: .junk :: .junk :: .d (.bool false) :: .d (.int .i64 i) :: .junk :: .junk :: .junk :: .junk :: .junk :: .junk :: .junk :: .junk :: .junk :: .junk :: .junk :: .junk :: .junk :: .junk :: .junk :: .junk :: .junk :: .junk :: .junk :: .junk :: .junk :: []) [] k
    = k (.exit 0) (.d (.ivs l.length (rowsD l)) :: .d (.ivs l.length (rowsD l)) :: .junk :: .junk :: .d (.bool false) :: .d (.int .i64 (l.length)) :: .junk :: .junk :: .junk :: .junk :: .junk :: .junk :: .junk :: .junk :: .junk :: .junk :: .junk :: .junk :: .junk :: .junk :: .junk :: .junk :: .junk :: .junk :: .junk :: .junk :: .junk :: []) [] := by
  intro i m h0 hi hm
  have hl := hs.1
  obtain ⟨j, hj⟩ : ∃ j : Nat, (j : Int) = (l.length : Int) - i := ⟨((l.length : Int) - i).toNat, by omega⟩
  induction j generalizing i m with
  | zero =>
    obtain ⟨m, rfl⟩ : ∃ q, m = q + 1 := ⟨m - 1, by omega⟩
    obtain rfl : i = l.length := by omega
    rw [step_eqIntSS_0]
    simp only [S_eqIntSS_0, Try.f98, slimF, slimL, lpOf, codeOf, Option.getD_some, slim, loops, List.length_nil, Nat.add_zero, Nat.zero_add, slimO, slimG, List.map_cons, List.map_nil, List.getElem?_cons_zero, List.getElem?_cons_succ, Option.bind_some, Bool.false_eq_true, if_false, if_true, List.length_cons, List.replicate, List.cons_append, List.nil_append, List.append_nil, Nat.reduceAdd, Nat.reduceSub, List.getD_cons_zero, List.getD_cons_succ]
    simp -implicitDefEqProofs (maxSteps := 2000000) (disch := first | assumption | (refine Shut.mk ?_; kernel_rfl) | omega | (simp only [List.getElem?_cons_zero, List.getElem?_cons_succ]; done) | (simp only [List.length_append, List.length_cons, List.length_nil, List.length_set, List.length_replicate, List.length_map, List.length_take, List.length_drop] <;> omega)) only [↓WD, ↓kAsg, ↓kRet, ↓reduceIte, ↓clash_free, ↓WDD, ↓kOpD_callv, WK, thawAt, evPick, aPut, leavesBody, outA, outS, outSs, idsA, idsL, mapA, calmAs, calmA, calmSl, calmPt, genOf, calmH, calmFrom, calmO, mapAs, maskB, isUndef, tidy, Int.reduceLT, Int.reduceLE, Int.reduceEq, Int.reduceNe, Int.reduceNeg, Int.reduceAdd, Int.reduceSub, Int.reduceMul, Int.reduceToNat, Nat.reduceAdd, Nat.reduceSub, aBuiltin, aAppend, aAppend0, aAppendV, isVec, bears, emptyArr, sliceAs, keeps, aBuildVec, aMakeVec, sliceCells, aBuildSlice, aIndexAddr, aLoad, runOf, ofCells, TY, LB, aLen, withInt, fillA, frzL, listWith, frz, frz0, deep, cellsA, setRun, okCell, List.replicate, notJunk, Nat.reduceMul, Nat.reduceLeDiff, Nat.reducePow, Nat.reduceBEq, boxIds, aResults, aResult, outAs, tupA, evNilCheck, aMove, MD, opds, evOp, asOper, one, two, evCallee, evAssign, aNew, evSlice, evField, evExtract, evFunc, pureOp, isCall, readOp, List.range', back, putBack, fuelR, closed, aStore, thawCells, place, pack, mapO, Nat.reduceEqDiff, Nat.reduceLT, maxNeed, i64_id, frzA, frzAs, memD, lentA, footC, ↓kc_eqIntS, ↓kl_eqIntS, ↓kv_eqIntS_1, ↓kv_eqIntS_2, ↓kv_eqIntS_3, LA, Int.lt_irrefl]
  | succ j ih =>
    obtain ⟨m, rfl⟩ : ∃ q, m = q + 1 := ⟨m - 1, by omega⟩
    have hc : i < l.length := by omega
    have hk : i.toNat < l.length := by omega
    have hrow := short_at hs hk
    rw [step_eqIntSS_0]
    simp only [S_eqIntSS_0, Try.f98, slimF, slimL, lpOf, codeOf, Option.getD_some, slim, loops, List.length_nil, Nat.add_zero, Nat.zero_add, slimO, slimG, List.map_cons, List.map_nil, List.getElem?_cons_zero, List.getElem?_cons_succ, Option.bind_some, Bool.false_eq_true, if_false, if_true, List.length_cons, List.replicate, List.cons_append, List.nil_append, List.append_nil, Nat.reduceAdd, Nat.reduceSub, List.getD_cons_zero, List.getD_cons_succ]
    simp -implicitDefEqProofs (maxSteps := 2000000) (disch := first | assumption | (refine Shut.mk ?_; kernel_rfl) | omega | (simp only [List.getElem?_cons_zero, List.getElem?_cons_succ]; done) | (simp only [List.length_append, List.length_cons, List.length_nil, List.length_set, List.length_replicate, List.length_map, List.length_take, List.length_drop] <;> omega)) only [↓WD, ↓kAsg, ↓kRet, ↓reduceIte, ↓clash_free, ↓WDD, ↓kOpD_callv, WK, thawAt, evPick, aPut, leavesBody, outA, outS, outSs, idsA, idsL, mapA, calmAs, calmA, calmSl, calmPt, genOf, calmH, calmFrom, calmO, mapAs, maskB, isUndef, tidy, Int.reduceLT, Int.reduceLE, Int.reduceEq, Int.reduceNe, Int.reduceNeg, Int.reduceAdd, Int.reduceSub, Int.reduceMul, Int.reduceToNat, Nat.reduceAdd, Nat.reduceSub, aBuiltin, aAppend, aAppend0, aAppendV, isVec, bears, emptyArr, sliceAs, keeps, aBuildVec, aMakeVec, sliceCells, aBuildSlice, aIndexAddr, aLoad, runOf, ofCells, TY, LB, aLen, withInt, fillA, frzL, listWith, frz, frz0, deep, cellsA, setRun, okCell, List.replicate, notJunk, Nat.reduceMul, Nat.reduceLeDiff, Nat.reducePow, Nat.reduceBEq, boxIds, aResults, aResult, outAs, tupA, evNilCheck, aMove, MD, opds, evOp, asOper, one, two, evCallee, evAssign, aNew, evSlice, evField, evExtract, evFunc, pureOp, isCall, readOp, List.range', back, putBack, fuelR, closed, aStore, thawCells, place, pack, mapO, Nat.reduceEqDiff, Nat.reduceLT, maxNeed, i64_id, frzA, frzAs, memD, lentA, footC, ↓kc_eqIntS, ↓kl_eqIntS, ↓kv_eqIntS_1, ↓kv_eqIntS_2, ↓kv_eqIntS_3, LA, hc, u_intss, c_ints, ↓ih]

theorem ev_eqIntSS {L n : Nat} (hn : 4 ≤ n) (l : List (List Int)) (hs : rowsShort l) (hL : 2 ^ 60 ≤ L) : evCall env L n 98 [.d (.ivs l.length (rowsD l)), .d (.ivs l.length (rowsD l))] [] = some (.d (.bool true), []) := by
  have hl := hs.1
  obtain ⟨n, rfl⟩ : ∃ m, n = m + 1 := ⟨n - 1, by omega⟩
  rw [fn_eqIntSS]
  simp only [S_eqIntSS, Try.f98, slimF, slimL, lpOf, codeOf, Option.getD_some, slim, loops, List.length_nil, Nat.add_zero, Nat.zero_add, slimO, slimG, List.map_cons, List.map_nil, List.getElem?_cons_zero, List.getElem?_cons_succ, Option.bind_some, Bool.false_eq_true, if_false, if_true, List.length_cons, List.replicate, List.cons_append, List.nil_append, List.append_nil, Nat.reduceAdd, Nat.reduceSub, List.getD_cons_zero, List.getD_cons_succ]
  simp -implicitDefEqProofs (maxSteps := 2000000) (disch := first | assumption | (refine Shut.mk ?_; kernel_rfl) | omega | (simp only [List.getElem?_cons_zero, List.getElem?_cons_succ]; done) | (simp only [List.length_append, List.length_cons, List.length_nil, List.length_set, List.length_replicate, List.length_map, List.length_take, List.length_drop] <;> omega)) only [↓WD, ↓kAsg, ↓kRet, ↓reduceIte, ↓clash_free, ↓WDD, ↓kOpD_callv, WK, thawAt, evPick, aPut, leavesBody, outA, outS, outSs, idsA, idsL, mapA, calmAs, calmA, calmSl, calmPt, genOf, calmH, calmFrom, calmO, mapAs, maskB, isUndef, tidy, Int.reduceLT, Int.reduceLE, Int.reduceEq, Int.reduceNe, Int.reduceNeg, Int.reduceAdd, Int.reduceSub, Int.reduceMul, Int.reduceToNat, Nat.reduceAdd, Nat.reduceSub, aBuiltin, aAppend, aAppend0, aAppendV, isVec, bears, emptyArr, sliceAs, keeps, aBuildVec, aMakeVec, sliceCells, aBuildSlice, aIndexAddr, aLoad, runOf, ofCells, TY, LB, aLen, withInt, fillA, frzL, listWith, frz, frz0, deep, cellsA, setRun, okCell, List.replicate, notJunk, Nat.reduceMul, Nat.reduceLeDiff, Nat.reducePow, Nat.reduceBEq, boxIds, aResults, aResult, outAs, tupA, evNilCheck, aMove, MD, opds, evOp, asOper, one, two, evCallee, evAssign, aNew, evSlice, evField, evExtract, evFunc, pureOp, isCall, readOp, List.range', back, putBack, fuelR, closed, aStore, thawCells, place, pack, mapO, Nat.reduceEqDiff, Nat.reduceLT, maxNeed, i64_id, frzA, frzAs, memD, lentA, footC, ↓kc_eqIntS, ↓kl_eqIntS, ↓kv_eqIntS_1, ↓kv_eqIntS_2, ↓kv_eqIntS_3, ↓loop_eqIntSS, LA]
theorem kc_eqIntSS {R : Type} {L n : Nat} {hq : H} {k : A → H → Option R} (hn : 4 ≤ n) (l : List (List Int)) (hs : rowsShort l) (hL : 2 ^ 60 ≤ L) : kCall env (evCall env L n) hq 98 [.d (.ivs l.length (rowsD l)), .d (.ivs l.length (rowsD l))] k = k (.d (.bool true)) hq :=
  kCall_still rfl (ev_eqIntSS hn l hs hL) rfl (.inl rfl)
theorem kl_eqIntSS {R : Type} {L n : Nat} {k : A → Option R} (hn : 4 ≤ n) (l : List (List Int)) (hs : rowsShort l) (hL : 2 ^ 60 ≤ L) : kLent (evCall env L n) 98 [.d (.ivs l.length (rowsD l)), .d (.ivs l.length (rowsD l))] k = k (.d (.bool true)) :=
  kLent_ev (ev_eqIntSS hn l hs hL) rfl
theorem kv_eqIntSS_1 {R : Type} {L n : Nat} {hq : H} {k : A → H → Option R} {id0 g0 o0 len0 : Nat} {l : List (List Int)} : kCall env (evCall env L n) hq 98 [.sl id0 g0 o0 len0, .d (.ivs l.length (rowsD l))] k = match box (lentA hq [.sl id0 g0 o0 len0, .d (.ivs l.length (rowsD l))]) with
    | .mk (some fs) => kLent (evCall env L n) 98 fs fun r => k r hq
    | _ => none := kCall_lent mode_eqIntSS
theorem kv_eqIntSS_2 {R : Type} {L n : Nat} {hq : H} {k : A → H → Option R} {id1 g1 o1 len1 : Nat} {l : List (List Int)} : kCall env (evCall env L n) hq 98 [.d (.ivs l.length (rowsD l)), .sl id1 g1 o1 len1] k = match box (lentA hq [.d (.ivs l.length (rowsD l)), .sl id1 g1 o1 len1]) with
    | .mk (some fs) => kLent (evCall env L n) 98 fs fun r => k r hq
    | _ => none := kCall_lent mode_eqIntSS
theorem kv_eqIntSS_3 {R : Type} {L n : Nat} {hq : H} {k : A → H → Option R} {id1 g1 o1 len1 : Nat} {id0 g0 o0 len0 : Nat}  : kCall env (evCall env L n) hq 98 [.sl id0 g0 o0 len0, .sl id1 g1 o1 len1] k = match box (lentA hq [.sl id0 g0 o0 len0, .sl id1 g1 o1 len1]) with
    | .mk (some fs) => kLent (evCall env L n) 98 fs fun r => k r hq
    | _ => none := kCall_lent mode_eqIntSS

theorem ev_eqAutomaton {L n : Nat} (hn : 6 ≤ n) (al : Int) (rs : List (List Int)) (ac : List Bool) (hs : rowsShort rs) (ha : ac.length ≤ 4294967296) (hL : 2 ^ 60 ≤ L) : evCall env L n 36 [.agg [.d (.int .i64 al), .d (.ivs rs.length (rowsD rs)), .d (.ivs ac.length (bools ac))], .agg [.d (.int .i64 al), .d (.ivs rs.length (rowsD rs)), .d (.ivs ac.length (bools ac))]] [] = some (.d (.bool true), []) := by
  obtain ⟨n, rfl⟩ : ∃ m, n = m + 1 := ⟨n - 1, by omega⟩
  rw [fn_eqAutomaton]
  simp only [S_eqAutomaton, Try.f36, slimF, slimL, lpOf, codeOf, Option.getD_some, slim, loops, List.length_nil, Nat.add_zero, Nat.zero_add, slimO, slimG, List.map_cons, List.map_nil, List.getElem?_cons_zero, List.getElem?_cons_succ, Option.bind_some, Bool.false_eq_true, if_false, if_true, List.length_cons, List.replicate, List.cons_append, List.nil_append, List.append_nil, Nat.reduceAdd, Nat.reduceSub, List.getD_cons_zero, List.getD_cons_succ]
  simp -implicitDefEqProofs (maxSteps := 2000000) (disch := first | assumption | (refine Shut.mk ?_; kernel_rfl) | omega | (simp only [List.getElem?_cons_zero, List.getElem?_cons_succ]; done) | (simp only [List.length_append, List.length_cons, List.length_nil, List.length_set, List.length_replicate, List.length_map, List.length_take, List.length_drop] <;> omega)) only [↓WD, ↓kAsg, ↓kRet, ↓reduceIte, ↓clash_free, ↓WDD, ↓kOpD_callv, WK, thawAt, evPick, aPut, leavesBody, outA, outS, outSs, idsA, idsL, mapA, calmAs, calmA, calmSl, calmPt, genOf, calmH, calmFrom, calmO, mapAs, maskB, isUndef, tidy, Int.reduceLT, Int.reduceLE, Int.reduceEq, Int.reduceNe, Int.reduceNeg, Int.reduceAdd, Int.reduceSub, Int.reduceMul, Int.reduceToNat, Nat.reduceAdd, Nat.reduceSub, aBuiltin, aAppend, aAppend0, aAppendV, isVec, bears, emptyArr, sliceAs, keeps, aBuildVec, aMakeVec, sliceCells, aBuildSlice, aIndexAddr, aLoad, runOf, ofCells, TY, LB, aLen, withInt, fillA, frzL, listWith, frz, frz0, deep, cellsA, setRun, okCell, List.replicate, notJunk, Nat.reduceMul, Nat.reduceLeDiff, Nat.reducePow, Nat.reduceBEq, boxIds, aResults, aResult, outAs, tupA, evNilCheck, aMove, MD, opds, evOp, asOper, one, two, evCallee, evAssign, aNew, evSlice, evField, evExtract, evFunc, pureOp, isCall, readOp, List.range', back, putBack, fuelR, closed, aStore, thawCells, place, pack, mapO, Nat.reduceEqDiff, Nat.reduceLT, maxNeed, i64_id, frzA, frzAs, memD, lentA, footC, ↓kc_eqIntSS, ↓kc_eqBoolS, ↓kl_eqIntSS, ↓kl_eqBoolS, ↓kv_eqIntSS_1, ↓kv_eqIntSS_2, ↓kv_eqIntSS_3, ↓kv_eqBoolS_1, ↓kv_eqBoolS_2, ↓kv_eqBoolS_3, LA]
theorem kc_eqAutomaton {R : Type} {L n : Nat} {hq : H} {k : A → H → Option R} (hn : 6 ≤ n) (al : Int) (rs : List (List Int)) (ac : List Bool) (hs : rowsShort rs) (ha : ac.length ≤ 4294967296) (hL : 2 ^ 60 ≤ L) : kCall env (evCall env L n) hq 36 [.agg [.d (.int .i64 al), .d (.ivs rs.length (rowsD rs)), .d (.ivs ac.length (bools ac))], .agg [.d (.int .i64 al), .d (.ivs rs.length (rowsD rs)), .d (.ivs ac.length (bools ac))]] k = k (.d (.bool true)) hq :=
  kCall_still rfl (ev_eqAutomaton hn al rs ac hs ha hL) rfl (.inl rfl)
theorem kl_eqAutomaton {R : Type} {L n : Nat} {k : A → Option R} (hn : 6 ≤ n) (al : Int) (rs : List (List Int)) (ac : List Bool) (hs : rowsShort rs) (ha : ac.length ≤ 4294967296) (hL : 2 ^ 60 ≤ L) : kLent (evCall env L n) 36 [.agg [.d (.int .i64 al), .d (.ivs rs.length (rowsD rs)), .d (.ivs ac.length (bools ac))], .agg [.d (.int .i64 al), .d (.ivs rs.length (rowsD rs)), .d (.ivs ac.length (bools ac))]] k = k (.d (.bool true)) :=
  kLent_ev (ev_eqAutomaton hn al rs ac hs ha hL) rfl
theorem kv_eqAutomaton_1 {R : Type} {L n : Nat} {hq : H} {k : A → H → Option R} {id0 g0 o0 len0 : Nat} {al : Int} {rs : List (List Int)} {ac : List Bool} : kCall env (evCall env L n) hq 36 [.agg [.d (.int .i64 al), .sl id0 g0 o0 len0, .d (.ivs ac.length (bools ac))], .agg [.d (.int .i64 al), .d (.ivs rs.length (rowsD rs)), .d (.ivs ac.length (bools ac))]] k = match box (lentA hq [.agg [.d (.int .i64 al), .sl id0 g0 o0 len0, .d (.ivs ac.length (bools ac))], .agg [.d (.int .i64 al), .d (.ivs rs.length (rowsD rs)), .d (.ivs ac.length (bools ac))]]) with
    | .mk (some fs) => kLent (evCall env L n) 36 fs fun r => k r hq
    | _ => none := kCall_lent mode_eqAutomaton
theorem kv_eqAutomaton_2 {R : Type} {L n : Nat} {hq : H} {k : A → H → Option R} {id1 g1 o1 len1 : Nat} {al : Int} {rs : List (List Int)} {ac : List Bool} : kCall env (evCall env L n) hq 36 [.agg [.d (.int .i64 al), .d (.ivs rs.length (rowsD rs)), .sl id1 g1 o1 len1], .agg [.d (.int .i64 al), .d (.ivs rs.length (rowsD rs)), .d (.ivs ac.length (bools ac))]] k = match box (lentA hq [.agg [.d (.int .i64 al), .d (.ivs rs.length (rowsD rs)), .sl id1 g1 o1 len1], .agg [.d (.int .i64 al), .d (.ivs rs.length (rowsD rs)), .d (.ivs ac.length (bools ac))]]) with
    | .mk (some fs) => kLent (evCall env L n) 36 fs fun r => k r hq
    | _ => none := kCall_lent mode_eqAutomaton
theorem kv_eqAutomaton_3 {R : Type} {L n : Nat} {hq : H} {k : A → H → Option R} {id1 g1 o1 len1 : Nat} {id0 g0 o0 len0 : Nat} {al : Int} {rs : List (List Int)} {ac : List Bool} : kCall env (evCall env L n) hq 36 [.agg [.d (.int .i64 al), .sl id0 g0 o0 len0, .sl id1 g1 o1 len1], .agg [.d (.int .i64 al), .d (.ivs rs.length (rowsD rs)), .d (.ivs ac.length (bools ac))]] k = match box (lentA hq [.agg [.d (.int .i64 al), .sl id0 g0 o0 len0, .sl id1 g1 o1 len1], .agg [.d (.int .i64 al), .d (.ivs rs.length (rowsD rs)), .d (.ivs ac.length (bools ac))]]) with
    | .mk (some fs) => kLent (evCall env L n) 36 fs fun r => k r hq
    | _ => none := kCall_lent mode_eqAutomaton
theorem kv_eqAutomaton_4 {R : Type} {L n : Nat} {hq : H} {k : A → H → Option R} {id2 g2 o2 len2 : Nat} {al : Int} {rs : List (List Int)} {ac : List Bool} : kCall env (evCall env L n) hq 36 [.agg [.d (.int .i64 al), .d (.ivs rs.length (rowsD rs)), .d (.ivs ac.length (bools ac))], .agg [.d (.int .i64 al), .sl id2 g2 o2 len2, .d (.ivs ac.length (bools ac))]] k = match box (lentA hq [.agg [.d (.int .i64 al), .d (.ivs rs.length (rowsD rs)), .d (.ivs ac.length (bools ac))], .agg [.d (.int .i64 al), .sl id2 g2 o2 len2, .d (.ivs ac.length (bools ac))]]) with
    | .mk (some fs) => kLent (evCall env L n) 36 fs fun r => k r hq
    | _ => none := kCall_lent mode_eqAutomaton
theorem kv_eqAutomaton_5 {R : Type} {L n : Nat} {hq : H} {k : A → H → Option R} {id2 g2 o2 len2 : Nat} {id0 g0 o0 len0 : Nat} {al : Int} {ac : List Bool} : kCall env (evCall env L n) hq 36 [.agg [.d (.int .i64 al), .sl id0 g0 o0 len0, .d (.ivs ac.length (bools ac))], .agg [.d (.int .i64 al), .sl id2 g2 o2 len2, .d (.ivs ac.length (bools ac))]] k = match box (lentA hq [.agg [.d (.int .i64 al), .sl id0 g0 o0 len0, .d (.ivs ac.length (bools ac))], .agg [.d (.int .i64 al), .sl id2 g2 o2 len2, .d (.ivs ac.length (bools ac))]]) with
    | .mk (some fs) => kLent (evCall env L n) 36 fs fun r => k r hq
    | _ => none := kCall_lent mode_eqAutomaton
theorem kv_eqAutomaton_6 {R : Type} {L n : Nat} {hq : H} {k : A → H → Option R} {id2 g2 o2 len2 : Nat} {id1 g1 o1 len1 : Nat} {al : Int} {rs : List (List Int)} {ac : List Bool} : kCall env (evCall env L n) hq 36 [.agg [.d (.int .i64 al), .d (.ivs rs.length (rowsD rs)), .sl id1 g1 o1 len1], .agg [.d (.int .i64 al), .sl id2 g2 o2 len2, .d (.ivs ac.length (bools ac))]] k = match box (lentA hq [.agg [.d (.int .i64 al), .d (.ivs rs.length (rowsD rs)), .sl id1 g1 o1 len1], .agg [.d (.int .i64 al), .sl id2 g2 o2 len2, .d (.ivs ac.length (bools ac))]]) with
    | .mk (some fs) => kLent (evCall env L n) 36 fs fun r => k r hq
    | _ => none := kCall_lent mode_eqAutomaton
theorem kv_eqAutomaton_7 {R : Type} {L n : Nat} {hq : H} {k : A → H → Option R} {id2 g2 o2 len2 : Nat} {id1 g1 o1 len1 : Nat} {id0 g0 o0 len0 : Nat} {al : Int} {ac : List Bool} : kCall env (evCall env L n) hq 36 [.agg [.d (.int .i64 al), .sl id0 g0 o0 len0, .sl id1 g1 o1 len1], .agg [.d (.int .i64 al), .sl id2 g2 o2 len2, .d (.ivs ac.length (bools ac))]] k = match box (lentA hq [.agg [.d (.int .i64 al), .sl id0 g0 o0 len0, .sl id1 g1 o1 len1], .agg [.d (.int .i64 al), .sl id2 g2 o2 len2, .d (.ivs ac.length (bools ac))]]) with
    | .mk (some fs) => kLent (evCall env L n) 36 fs fun r => k r hq
    | _ => none := kCall_lent mode_eqAutomaton
theorem kv_eqAutomaton_8 {R : Type} {L n : Nat} {hq : H} {k : A → H → Option R} {id3 g3 o3 len3 : Nat} {al : Int} {rs : List (List Int)} {ac : List Bool} : kCall env (evCall env L n) hq 36 [.agg [.d (.int .i64 al), .d (.ivs rs.length (rowsD rs)), .d (.ivs ac.length (bools ac))], .agg [.d (.int .i64 al), .d (.ivs rs.length (rowsD rs)), .sl id3 g3 o3 len3]] k = match box (lentA hq [.agg [.d (.int .i64 al), .d (.ivs rs.length (rowsD rs)), .d (.ivs ac.length (bools ac))], .agg [.d (.int .i64 al), .d (.ivs rs.length (rowsD rs)), .sl id3 g3 o3 len3]]) with
    | .mk (some fs) => kLent (evCall env L n) 36 fs fun r => k r hq
    | _ => none := kCall_lent mode_eqAutomaton
theorem kv_eqAutomaton_9 {R : Type} {L n : Nat} {hq : H} {k : A → H → Option R} {id3 g3 o3 len3 : Nat} {id0 g0 o0 len0 : Nat} {al : Int} {rs : List (List Int)} {ac : List Bool} : kCall env (evCall env L n) hq 36 [.agg [.d (.int .i64 al), .sl id0 g0 o0 len0, .d (.ivs ac.length (bools ac))], .agg [.d (.int .i64 al), .d (.ivs rs.length (rowsD rs)), .sl id3 g3 o3 len3]] k = match box (lentA hq [.agg [.d (.int .i64 al), .sl id0 g0 o0 len0, .d (.ivs ac.length (bools ac))], .agg [.d (.int .i64 al), .d (.ivs rs.length (rowsD rs)), .sl id3 g3 o3 len3]]) with
    | .mk (some fs) => kLent (evCall env L n) 36 fs fun r => k r hq
    | _ => none := kCall_lent mode_eqAutomaton
theorem kv_eqAutomaton_10 {R : Type} {L n : Nat} {hq : H} {k : A → H → Option R} {id3 g3 o3 len3 : Nat} {id1 g1 o1 len1 : Nat} {al : Int} {rs : List (List Int)} : kCall env (evCall env L n) hq 36 [.agg [.d (.int .i64 al), .d (.ivs rs.length (rowsD rs)), .sl id1 g1 o1 len1], .agg [.d (.int .i64 al), .d (.ivs rs.length (rowsD rs)), .sl id3 g3 o3 len3]] k = match box (lentA hq [.agg [.d (.int .i64 al), .d (.ivs rs.length (rowsD rs)), .sl id1 g1 o1 len1], .agg [.d (.int .i64 al), .d (.ivs rs.length (rowsD rs)), .sl id3 g3 o3 len3]]) with
    | .mk (some fs) => kLent (evCall env L n) 36 fs fun r => k r hq
    | _ => none := kCall_lent mode_eqAutomaton
theorem kv_eqAutomaton_11 {R : Type} {L n : Nat} {hq : H} {k : A → H → Option R} {id3 g3 o3 len3 : Nat} {id1 g1 o1 len1 : Nat} {id0 g0 o0 len0 : Nat} {al : Int} {rs : List (List Int)} : kCall env (evCall env L n) hq 36 [.agg [.d (.int .i64 al), .sl id0 g0 o0 len0, .sl id1 g1 o1 len1], .agg [.d (.int .i64 al), .d (.ivs rs.length (rowsD rs)), .sl id3 g3 o3 len3]] k = match box (lentA hq [.agg [.d (.int .i64 al), .sl id0 g0 o0 len0, .sl id1 g1 o1 len1], .agg [.d (.int .i64 al), .d (.ivs rs.length (rowsD rs)), .sl id3 g3 o3 len3]]) with
    | .mk (some fs) => kLent (evCall env L n) 36 fs fun r => k r hq
    | _ => none := kCall_lent mode_eqAutomaton
theorem kv_eqAutomaton_12 {R : Type} {L n : Nat} {hq : H} {k : A → H → Option R} {id3 g3 o3 len3 : Nat} {id2 g2 o2 len2 : Nat} {al : Int} {rs : List (List Int)} {ac : List Bool} : kCall env (evCall env L n) hq 36 [.agg [.d (.int .i64 al), .d (.ivs rs.length (rowsD rs)), .d (.ivs ac.length (bools ac))], .agg [.d (.int .i64 al), .sl id2 g2 o2 len2, .sl id3 g3 o3 len3]] k = match box (lentA hq [.agg [.d (.int .i64 al), .d (.ivs rs.length (rowsD rs)), .d (.ivs ac.length (bools ac))], .agg [.d (.int .i64 al), .sl id2 g2 o2 len2, .sl id3 g3 o3 len3]]) with
    | .mk (some fs) => kLent (evCall env L n) 36 fs fun r => k r hq
    | _ => none := kCall_lent mode_eqAutomaton
theorem kv_eqAutomaton_13 {R : Type} {L n : Nat} {hq : H} {k : A → H → Option R} {id3 g3 o3 len3 : Nat} {id2 g2 o2 len2 : Nat} {id0 g0 o0 len0 : Nat} {al : Int} {ac : List Bool} : kCall env (evCall env L n) hq 36 [.agg [.d (.int .i64 al), .sl id0 g0 o0 len0, .d (.ivs ac.length (bools ac))], .agg [.d (.int .i64 al), .sl id2 g2 o2 len2, .sl id3 g3 o3 len3]] k = match box (lentA hq [.agg [.d (.int .i64 al), .sl id0 g0 o0 len0, .d (.ivs ac.length (bools ac))], .agg [.d (.int .i64 al), .sl id2 g2 o2 len2, .sl id3 g3 o3 len3]]) with
    | .mk (some fs) => kLent (evCall env L n) 36 fs fun r => k r hq
    | _ => none := kCall_lent mode_eqAutomaton
theorem kv_eqAutomaton_14 {R : Type} {L n : Nat} {hq : H} {k : A → H → Option R} {id3 g3 o3 len3 : Nat} {id2 g2 o2 len2 : Nat} {id1 g1 o1 len1 : Nat} {al : Int} {rs : List (List Int)} : kCall env (evCall env L n) hq 36 [.agg [.d (.int .i64 al), .d (.ivs rs.length (rowsD rs)), .sl id1 g1 o1 len1], .agg [.d (.int .i64 al), .sl id2 g2 o2 len2, .sl id3 g3 o3 len3]] k = match box (lentA hq [.agg [.d (.int .i64 al), .d (.ivs rs.length (rowsD rs)), .sl id1 g1 o1 len1], .agg [.d (.int .i64 al), .sl id2 g2 o2 len2, .sl id3 g3 o3 len3]]) with
    | .mk (some fs) => kLent (evCall env L n) 36 fs fun r => k r hq
    | _ => none := kCall_lent mode_eqAutomaton
theorem kv_eqAutomaton_15 {R : Type} {L n : Nat} {hq : H} {k : A → H → Option R} {id3 g3 o3 len3 : Nat} {id2 g2 o2 len2 : Nat} {id1 g1 o1 len1 : Nat} {id0 g0 o0 len0 : Nat} {al : Int} : kCall env (evCall env L n) hq 36 [.agg [.d (.int .i64 al), .sl id0 g0 o0 len0, .sl id1 g1 o1 len1], .agg [.d (.int .i64 al), .sl id2 g2 o2 len2, .sl id3 g3 o3 len3]] k = match box (lentA hq [.agg [.d (.int .i64 al), .sl id0 g0 o0 len0, .sl id1 g1 o1 len1], .agg [.d (.int .i64 al), .sl id2 g2 o2 len2, .sl id3 g3 o3 len3]]) with
    | .mk (some fs) => kLent (evCall env L n) 36 fs fun r => k r hq
    | _ => none := kCall_lent mode_eqAutomaton

/-! ### marks -/

/-- Numbers counted up. -/
def marksI : Nat → Int → List Int
  | 0, _ => []
  | j + 1, k => k :: marksI j (k + 1)

theorem marksI_len : ∀ (j : Nat) (k : Int), (marksI j k).length = j
  | 0, _ => rfl
  | j + 1, k => by simp [marksI, marksI_len j]

theorem loop_markIntS {R : Type} {L n : Nat} {k : Exit → List A → H → Option R} : ∀ (i c : Int) (m : Nat) (o : List Int) (len : Nat) (h0 : 0 ≤ i) (hi : i ≤ len) (hm : (len : Int) - i < m) (ho : o.length = len) (hl : len ≤ 4294967296) (hc0 : 0 ≤ c) (hc1 : c + ((len : Int) - i) ≤ 1000000000000),
    kLoop env (evCall env L n) L 1 [] (true :: true :: false :: false :: true :: true :: false :: false :: false :: false :: false :: false :: false :: false :: false :: false :: false :: false :: false :: []) (lp_markIntS 0) (false :: false :: true :: true :: false :: false :: true :: true :: true :: true :: true :: true :: true :: true :: true :: true :: true :: true :: true :: []) m (.sl 0 0 0 len :: .d (.int .i64 c) :: .junk :: .junk :: .d (.int .i64 0) :: .d (.int .i64 i) :: .junk :: .junk :: .junk :: .junk :: .junk :: .junk :: .junk :: .junk :: .junk :: .junk :: .junk :: .junk :: .junk :: []) [.arr (ints o) 1 0] k
    = k (.exit 0) (.sl 0 0 0 len :: .d (.int .i64 ((c + ((len : Int) - i)))) :: .junk :: .junk :: .d (.int .i64 0) :: .d (.int .i64 len) :: .junk :: .junk :: .junk :: .junk :: .junk :: .junk :: .junk :: .junk :: .junk :: .junk :: .junk :: .junk :: .junk :: []) [.arr (ints (o.take i.toNat ++ marksI ((len : Int) - i).toNat c)) 1 0] := by
  intro i c m o len h0 hi hm ho hl hc0 hc1
  obtain ⟨j, hj⟩ : ∃ j : Nat, (j : Int) = (len : Int) - i := ⟨((len : Int) - i).toNat, by omega⟩
  induction j generalizing i c m o len with
  | zero =>
    obtain ⟨m, rfl⟩ : ∃ q, m = q + 1 := ⟨m - 1, by omega⟩
    obtain rfl : i = len := by omega
    rw [step_markIntS_0]
    simp only [S_markIntS_0, Try.f134, slimF, slimL, lpOf, codeOf, Option.getD_some, slim, loops, List.length_nil, Nat.add_zero, Nat.zero_add, slimO, slimG, List.map_cons, List.map_nil, List.getElem?_cons_zero, List.getElem?_cons_succ, Option.bind_some, Bool.false_eq_true, if_false, if_true, List.length_cons, List.replicate, List.cons_append, List.nil_append, List.append_nil, Nat.reduceAdd, Nat.reduceSub, List.getD_cons_zero, List.getD_cons_succ]
    simp -implicitDefEqProofs (maxSteps := 2000000) (disch := first | assumption | (refine Shut.mk ?_; kernel_rfl) | omega | (simp only [List.getElem?_cons_zero, List.getElem?_cons_succ]; done) | (simp only [List.length_append, List.length_cons, List.length_nil, List.length_set, List.length_replicate, List.length_map, List.length_take, List.length_drop] <;> omega)) only [↓WD, ↓kAsg, ↓kRet, ↓reduceIte, ↓clash_free, ↓WDD, ↓kOpD_callv, WK, thawAt, evPick, aPut, leavesBody, outA, outS, outSs, idsA, idsL, mapA, calmAs, calmA, calmSl, calmPt, genOf, calmH, calmFrom, calmO, mapAs, maskB, isUndef, tidy, Int.reduceLT, Int.reduceLE, Int.reduceEq, Int.reduceNe, Int.reduceNeg, Int.reduceAdd, Int.reduceSub, Int.reduceMul, Int.reduceToNat, Nat.reduceAdd, Nat.reduceSub, aBuiltin, aAppend, aAppend0, aAppendV, isVec, bears, emptyArr, sliceAs, keeps, aBuildVec, aMakeVec, sliceCells, aBuildSlice, aIndexAddr, aLoad, runOf, ofCells, TY, LB, aLen, withInt, fillA, frzL, listWith, frz, frz0, deep, cellsA, setRun, okCell, List.replicate, notJunk, Nat.reduceMul, Nat.reduceLeDiff, Nat.reducePow, Nat.reduceBEq, boxIds, aResults, aResult, outAs, tupA, evNilCheck, aMove, MD, opds, evOp, asOper, one, two, evCallee, evAssign, aNew, evSlice, evField, evExtract, evFunc, pureOp, isCall, readOp, List.range', back, putBack, fuelR, closed, aStore, thawCells, place, pack, mapO, Nat.reduceEqDiff, Nat.reduceLT, maxNeed, i64_id, frzA, frzAs, memD, lentA, footC, Int.lt_irrefl]
    have e1 : o.take len = o := List.take_of_length_le (by omega)
    have e2 : ((len : Int) - len).toNat = 0 := by omega
    simp only [Int.toNat_natCast, e1, e2, marksI, List.append_nil]
    congr 3
    simp
  | succ j ih =>
    obtain ⟨m, rfl⟩ : ∃ q, m = q + 1 := ⟨m - 1, by omega⟩
    have hc : i < len := by omega
    have hk : i.toNat < o.length := by omega
    have e1 : (i + 1).toNat = i.toNat + 1 := by omega
    have e2 : ((len : Int) - i).toNat = j + 1 := by omega
    have e3 : ((len : Int) - (i + 1)).toNat = j := by omega
    rw [step_markIntS_0]
    simp only [S_markIntS_0, Try.f134, slimF, slimL, lpOf, codeOf, Option.getD_some, slim, loops, List.length_nil, Nat.add_zero, Nat.zero_add, slimO, slimG, List.map_cons, List.map_nil, List.getElem?_cons_zero, List.getElem?_cons_succ, Option.bind_some, Bool.false_eq_true, if_false, if_true, List.length_cons, List.replicate, List.cons_append, List.nil_append, List.append_nil, Nat.reduceAdd, Nat.reduceSub, List.getD_cons_zero, List.getD_cons_succ]
    simp -implicitDefEqProofs (maxSteps := 2000000) (disch := first | assumption | (refine Shut.mk ?_; kernel_rfl) | omega | (simp only [List.getElem?_cons_zero, List.getElem?_cons_succ]; done) | (simp only [List.length_append, List.length_cons, List.length_nil, List.length_set, List.length_replicate, List.length_map, List.length_take, List.length_drop] <;> omega)) only [↓WD, ↓kAsg, ↓kRet, ↓reduceIte, ↓clash_free, ↓WDD, ↓kOpD_callv, WK, thawAt, evPick, aPut, leavesBody, outA, outS, outSs, idsA, idsL, mapA, calmAs, calmA, calmSl, calmPt, genOf, calmH, calmFrom, calmO, mapAs, maskB, isUndef, tidy, Int.reduceLT, Int.reduceLE, Int.reduceEq, Int.reduceNe, Int.reduceNeg, Int.reduceAdd, Int.reduceSub, Int.reduceMul, Int.reduceToNat, Nat.reduceAdd, Nat.reduceSub, aBuiltin, aAppend, aAppend0, aAppendV, isVec, bears, emptyArr, sliceAs, keeps, aBuildVec, aMakeVec, sliceCells, aBuildSlice, aIndexAddr, aLoad, runOf, ofCells, TY, LB, aLen, withInt, fillA, frzL, listWith, frz, frz0, deep, cellsA, setRun, okCell, List.replicate, notJunk, Nat.reduceMul, Nat.reduceLeDiff, Nat.reducePow, Nat.reduceBEq, boxIds, aResults, aResult, outAs, tupA, evNilCheck, aMove, MD, opds, evOp, asOper, one, two, evCallee, evAssign, aNew, evSlice, evField, evExtract, evFunc, pureOp, isCall, readOp, List.range', back, putBack, fuelR, closed, aStore, thawCells, place, pack, mapO, Nat.reduceEqDiff, Nat.reduceLT, maxNeed, i64_id, frzA, frzAs, memD, lentA, footC, hc, u_ints, c_int, ↓st_int0, ↓ih]
    have e4 : c + 1 + ((len : Int) - (i + 1)) = c + ((len : Int) - i) := by omega
    rw [e1, e2, e3, set_go1 hk, e4]
    simp only [marksI]

theorem ev_markIntS {L n : Nat} (hn : 1 ≤ n) (o : List Int) (c : Int) (hl : o.length ≤ 4294967296) (hc0 : 0 ≤ c) (hc1 : c ≤ 100000000000) (hL : 2 ^ 60 ≤ L) : evCall env L n 134 [.sl 0 0 0 o.length, .d (.int .i64 c)] [.arr (ints o) 1 0] = some (.d (.int .i64 (c + o.length)), [.arr (ints (marksI o.length c)) 1 0]) := by
  obtain ⟨n, rfl⟩ : ∃ m, n = m + 1 := ⟨n - 1, by omega⟩
  rw [fn_markIntS]
  simp only [S_markIntS, Try.f134, slimF, slimL, lpOf, codeOf, Option.getD_some, slim, loops, List.length_nil, Nat.add_zero, Nat.zero_add, slimO, slimG, List.map_cons, List.map_nil, List.getElem?_cons_zero, List.getElem?_cons_succ, Option.bind_some, Bool.false_eq_true, if_false, if_true, List.length_cons, List.replicate, List.cons_append, List.nil_append, List.append_nil, Nat.reduceAdd, Nat.reduceSub, List.getD_cons_zero, List.getD_cons_succ]
  simp -implicitDefEqProofs (maxSteps := 2000000) (disch := first | assumption | (refine Shut.mk ?_; kernel_rfl) | omega | (simp only [List.getElem?_cons_zero, List.getElem?_cons_succ]; done) | (simp only [List.length_append, List.length_cons, List.length_nil, List.length_set, List.length_replicate, List.length_map, List.length_take, List.length_drop] <;> omega)) only [↓WD, ↓kAsg, ↓kRet, ↓reduceIte, ↓clash_free, ↓WDD, ↓kOpD_callv, WK, thawAt, evPick, aPut, leavesBody, outA, outS, outSs, idsA, idsL, mapA, calmAs, calmA, calmSl, calmPt, genOf, calmH, calmFrom, calmO, mapAs, maskB, isUndef, tidy, Int.reduceLT, Int.reduceLE, Int.reduceEq, Int.reduceNe, Int.reduceNeg, Int.reduceAdd, Int.reduceSub, Int.reduceMul, Int.reduceToNat, Nat.reduceAdd, Nat.reduceSub, aBuiltin, aAppend, aAppend0, aAppendV, isVec, bears, emptyArr, sliceAs, keeps, aBuildVec, aMakeVec, sliceCells, aBuildSlice, aIndexAddr, aLoad, runOf, ofCells, TY, LB, aLen, withInt, fillA, frzL, listWith, frz, frz0, deep, cellsA, setRun, okCell, List.replicate, notJunk, Nat.reduceMul, Nat.reduceLeDiff, Nat.reducePow, Nat.reduceBEq, boxIds, aResults, aResult, outAs, tupA, evNilCheck, aMove, MD, opds, evOp, asOper, one, two, evCallee, evAssign, aNew, evSlice, evField, evExtract, evFunc, pureOp, isCall, readOp, List.range', back, putBack, fuelR, closed, aStore, thawCells, place, pack, mapO, Nat.reduceEqDiff, Nat.reduceLT, maxNeed, i64_id, frzA, frzAs, memD, lentA, footC, ↓loop_markIntS, Int.toNat_zero, Int.sub_zero, Int.toNat_natCast, List.take_zero, List.nil_append]

theorem kc_markIntS {R : Type} {L n id : Nat} {hq : H} {k : A → H → Option R} (hn : 1 ≤ n) (o : List Int) (c : Int) (hi : hq[id]? = some (.arr (ints o) 1 0)) (hl : o.length ≤ 4294967296) (hc0 : 0 ≤ c) (hc1 : c ≤ 100000000000) (hL : 2 ^ 60 ≤ L) : kCall env (evCall env L n) hq 134 [.sl id 0 0 o.length, .d (.int .i64 c)] k = k (.d (.int .i64 (c + o.length))) (hq.set id (.arr (ints (marksI o.length c)) 1 0)) :=
  kCall_ref hi (by simp [idsL, idsA]) mode_markIntS rfl (by simpa [mapAs, mapA, place] using ev_markIntS hn o c hl hc0 hc1 hL)

end Ev
end Go.Proofs.Ytidobgmklcbcpaa
