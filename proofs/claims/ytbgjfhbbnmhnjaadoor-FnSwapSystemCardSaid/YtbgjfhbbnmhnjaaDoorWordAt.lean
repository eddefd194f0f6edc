/-
  The words of an alphabet, counted.
-/
import Derived.Test.YtbgjfhbbnmhnjaaDoorSwapL
import Derived.Test.YtbgjfhbbnmhnjaaDoorBin
set_option linter.unusedSimpArgs false
set_option linter.unusedVariables false
set_option maxRecDepth 8000
set_option pp.maxSteps 6000
set_option maxHeartbeats 4000000
namespace Go.Proofs.YtbgjfhbbnmhnjaaDoor
namespace Ev

/-! ### bytes turned round -/

/-- Two places change their values. -/
def swp (l : List UInt8) (i j : Nat) : List UInt8 := (l.set i (l.getD j 0)).set j (l.getD i 0)

theorem swp_len (l : List UInt8) (i j : Nat) : (swp l i j).length = l.length := by simp [swp]

theorem swp_mem {l : List UInt8} {i j : Nat} (hi : i < l.length) (hj : j < l.length) {b : UInt8} (h : b ∈ swp l i j) : b ∈ l := by
  unfold swp at h
  have key : ∀ {l' : List UInt8} {k : Nat} {v b : UInt8}, b ∈ l'.set k v → b ∈ l' ∨ b = v := fun h => List.mem_or_eq_of_mem_set h
  have at' : ∀ {k : Nat}, k < l.length → l.getD k 0 ∈ l := fun hk => by
    rw [List.getD_eq_getElem?_getD, List.getElem?_eq_getElem hk]; exact List.getElem_mem hk
  rcases key h with h | h
  · rcases key h with h | h
    · exact h
    · rw [h]; exact at' hj
  · rw [h]; exact at' hi

def revG : Nat → Int → Int → List UInt8 → Int × Int × List UInt8
  | 0, i, j, l => (i, j, l)
  | q + 1, i, j, l => if i < j then revG q (i + 1) (j - 1) (swp l i.toNat j.toNat) else (i, j, l)

theorem revG_props : ∀ (q : Nat) (i j : Int) (l : List UInt8), 0 ≤ i → j < l.length → (revG q i j l).2.2.length = l.length ∧ ∀ b ∈ (revG q i j l).2.2, b ∈ l
  | 0, i, j, l, _, _ => ⟨rfl, fun b h => h⟩
  | q + 1, i, j, l, h0, h1 => by
    unfold revG
    split
    · rename_i hlt
      have ih := revG_props q (i + 1) (j - 1) (swp l i.toNat j.toNat) (by omega) (by rw [swp_len]; omega)
      rw [swp_len] at ih
      exact ⟨ih.1, fun b hb => swp_mem (by omega) (by omega) (ih.2 b hb)⟩
    · exact ⟨rfl, fun b h => h⟩

/-- A byte is written, in a region that draws its order. -/
theorem st_memb {call : CallF} {thaw : List Nat} {dst : Option Tmp} {x y : Operand} {g k : Nat} {l : List UInt8} {b : UInt8} (hk : k < l.length) : memD env call thaw dst (.store 5 x y) [.arr (bytesL l) 1 g] [.ptr 0 g k, .d (.int .u8 (b.toNat : Int))] = some (.d .undef, [.arr (bytesL (l.set k b)) 1 g], { ids := [0], ro := false, wr := [0] }) := by
  have hst := st_byte0 (h := []) (g := g) (e := 1) (b := b) hk
  have e1 : reach fuelR [O.arr (bytesL l) 1 g] (idsL [.ptr 0 g k, .d (.int .u8 (b.toNat : Int))]) [] = [0] := rfl
  have e2 : pack [O.arr (bytesL l) 1 g] [0] = [O.arr (bytesL l) 1 g] := rfl
  have e3 : mapAs (place [0]) [.ptr 0 g k, .d (.int .u8 (b.toNat : Int))] = [.ptr 0 g k, .d (.int .u8 (b.toNat : Int))] := rfl
  unfold memD
  rw [e1]
  simp only [box]
  rw [e2, e3]
  simp only [evOp, asOper, two, hst, Option.map_some]
  rfl

theorem loop_rev {R : Type} {L n g : Nat} {k : Exit → List A → H → Option R} : ∀ (q : Nat) (i j : Int) (m : Nat) (l : List UInt8) (len : Nat) (h0 : 0 ≤ i) (hj : j < l.length) (hq : j - i < q) (hm : q < m) (hl : len = l.length) (hs : l.length ≤ 50000) (hj0 : -1 ≤ j),
    kLoop env (evCall env L n) L 1 [] (true :: false :: true :: true :: false :: false :: false :: false :: false :: false :: false :: false :: false :: false :: false :: false :: false :: false :: false :: false :: false :: false :: false :: false :: false :: false :: false :: false :: []) (lp_slices_Reverse_byte_byte 0) (false :: true :: false :: false :: true :: true :: true :: true :: true :: true :: true :: true :: true :: true :: true :: true :: true :: true :: true :: true :: true :: true :: true :: true :: true :: true :: true :: true :: []) m (.sl 0 g 0 len :: .junk :: .d (.int .i64 i) :: .d (.int .i64 j) :: .junk :: .junk :: .junk :: .junk :: .junk :: .junk :: .junk :: .junk :: .junk :: .junk :: .junk :: .junk :: .junk :: .junk :: .junk :: .junk :: .junk :: .junk :: .junk :: .junk :: .junk :: .junk :: .junk :: .junk :: []) [.arr (bytesL l) 1 g] k
    = k (.exit 0) (.sl 0 g 0 len :: .junk :: .d (.int .i64 (((revG q i j l).1))) :: .d (.int .i64 (((revG q i j l).2.1))) :: .junk :: .junk :: .junk :: .junk :: .junk :: .junk :: .junk :: .junk :: .junk :: .junk :: .junk :: .junk :: .junk :: .junk :: .junk :: .junk :: .junk :: .junk :: .junk :: .junk :: .junk :: .junk :: .junk :: .junk :: []) [.arr (bytesL (revG q i j l).2.2) 1 g] := by
  intro q
  induction q with
  | zero =>
    intro i j m l len h0 hj hq hm hl hs hj0
    obtain ⟨m, rfl⟩ : ∃ q, m = q + 1 := ⟨m - 1, by omega⟩
    have hc : ¬ i < j := by omega
    rw [step_slices_Reverse_byte_byte_0]
    simp only [S_slices_Reverse_byte_byte_0, Tryd.f38, slimF, slimL, lpOf, codeOf, Option.getD_some, slim, loops, List.length_nil, Nat.add_zero, Nat.zero_add, slimO, slimG, List.map_cons, List.map_nil, List.getElem?_cons_zero, List.getElem?_cons_succ, Option.bind_some, Bool.false_eq_true, if_false, if_true, List.length_cons, List.replicate, List.cons_append, List.nil_append, List.append_nil, Nat.reduceAdd, Nat.reduceSub, List.getD_cons_zero, List.getD_cons_succ]
    simp -implicitDefEqProofs (maxSteps := 2000000) (disch := first | assumption | (refine Shut.mk ?_; kernel_rfl) | omega | (simp only [List.getElem?_cons_zero, List.getElem?_cons_succ]; done) | (simp only [List.length_append, List.length_cons, List.length_nil, List.length_set, List.length_replicate, List.length_map, List.length_take, List.length_drop] <;> omega) | (fail)) only [↓WD, ↓kAsg, ↓kRet, ↓reduceIte, ↓clash_free, ↓WDD, ↓kOpD_callv, WK, thawAt, evPick, aPut, leavesBody, outA, outS, outSs, idsA, idsL, mapA, calmAs, calmA, calmSl, calmPt, genOf, calmH, calmFrom, calmO, mapAs, maskB, isUndef, tidy, Int.reduceLT, Int.reduceLE, Int.reduceEq, Int.reduceNe, Int.reduceNeg, Int.reduceAdd, Int.reduceSub, Int.reduceMul, Int.reduceToNat, Nat.reduceAdd, Nat.reduceSub, aBuiltin, aAppend, aAppend0, aAppendV, isVec, bears, emptyArr, sliceAs, keeps, aBuildVec, aMakeVec, sliceCells, aBuildSlice, aIndexAddr, aLoad, runOf, ofCells, TY, LB, aLen, withInt, fillA, frzL, listWith, frz, frz0, deep, cellsA, setRun, okCell, List.replicate, notJunk, Nat.reduceMul, Nat.reduceLeDiff, Nat.reducePow, Nat.reduceBEq, boxIds, aResults, aResult, outAs, tupA, evNilCheck, aMove, MD, opds, evOp, asOper, one, two, evCallee, evAssign, aNew, evSlice, evField, evExtract, evFunc, pureOp, isCall, readOp, List.range', back, putBack, fuelR, closed, aStore, thawCells, place, pack, mapO, Nat.reduceEqDiff, Nat.reduceLT, maxNeed, i64_id, frzA, frzAs, memD, lentA, footC, hc]
    rfl
  | succ q ih =>
    intro i j m l len h0 hj hq hm hl hs hj0
    obtain ⟨m, rfl⟩ : ∃ q, m = q + 1 := ⟨m - 1, by omega⟩
    by_cases hc : i < j
    · have hi1 : i < (len : Int) := by omega
      have hj1 : j < (len : Int) := by omega
      have hi2 : i.toNat < l.length := by omega
      have hj2 : j.toNat < l.length := by omega
      have hj3 : j.toNat < (l.set i.toNat (l.getD j.toNat 0)).length := by rw [List.length_set]; exact hj2
      have hj4 : (0 : Int) ≤ j := by omega
      have ih' := ih (i + 1) (j - 1) m (swp l i.toNat j.toNat) len (by omega) (by rw [swp_len]; omega) (by omega) (by omega) (by rw [swp_len]; exact hl) (by rw [swp_len]; exact hs) (by omega)
      unfold swp at ih'
      rw [step_slices_Reverse_byte_byte_0]
      simp only [S_slices_Reverse_byte_byte_0, Tryd.f38, slimF, slimL, lpOf, codeOf, Option.getD_some, slim, loops, List.length_nil, Nat.add_zero, Nat.zero_add, slimO, slimG, List.map_cons, List.map_nil, List.getElem?_cons_zero, List.getElem?_cons_succ, Option.bind_some, Bool.false_eq_true, if_false, if_true, List.length_cons, List.replicate, List.cons_append, List.nil_append, List.append_nil, Nat.reduceAdd, Nat.reduceSub, List.getD_cons_zero, List.getD_cons_succ]
      simp -implicitDefEqProofs (maxSteps := 2000000) (disch := first | assumption | (refine Shut.mk ?_; kernel_rfl) | omega | (simp only [List.getElem?_cons_zero, List.getElem?_cons_succ]; done) | (simp only [List.length_append, List.length_cons, List.length_nil, List.length_set, List.length_replicate, List.length_map, List.length_take, List.length_drop] <;> omega) | (fail)) only [↓WD, ↓kAsg, ↓kRet, ↓reduceIte, ↓clash_free, ↓WDD, ↓kOpD_callv, WK, thawAt, evPick, aPut, leavesBody, outA, outS, outSs, idsA, idsL, mapA, calmAs, calmA, calmSl, calmPt, genOf, calmH, calmFrom, calmO, mapAs, maskB, isUndef, tidy, Int.reduceLT, Int.reduceLE, Int.reduceEq, Int.reduceNe, Int.reduceNeg, Int.reduceAdd, Int.reduceSub, Int.reduceMul, Int.reduceToNat, Nat.reduceAdd, Nat.reduceSub, aBuiltin, aAppend, aAppend0, aAppendV, isVec, bears, emptyArr, sliceAs, keeps, aBuildVec, aMakeVec, sliceCells, aBuildSlice, aIndexAddr, aLoad, runOf, ofCells, TY, LB, aLen, withInt, fillA, frzL, listWith, frz, frz0, deep, cellsA, setRun, okCell, List.replicate, notJunk, Nat.reduceMul, Nat.reduceLeDiff, Nat.reducePow, Nat.reduceBEq, boxIds, aResults, aResult, outAs, tupA, evNilCheck, aMove, MD, opds, evOp, asOper, one, two, evCallee, evAssign, aNew, evSlice, evField, evExtract, evFunc, pureOp, isCall, readOp, List.range', back, putBack, fuelR, closed, aStore, thawCells, place, pack, mapO, Nat.reduceEqDiff, Nat.reduceLT, maxNeed, i64_id, frzA, frzAs, memD, lentA, footC, hc, u_bytes, c_uint8, bytesL_head, ↓st_memb, ↓ih']
      simp only [revG, hc, if_true, swp]
    · rw [step_slices_Reverse_byte_byte_0]
      simp only [S_slices_Reverse_byte_byte_0, Tryd.f38, slimF, slimL, lpOf, codeOf, Option.getD_some, slim, loops, List.length_nil, Nat.add_zero, Nat.zero_add, slimO, slimG, List.map_cons, List.map_nil, List.getElem?_cons_zero, List.getElem?_cons_succ, Option.bind_some, Bool.false_eq_true, if_false, if_true, List.length_cons, List.replicate, List.cons_append, List.nil_append, List.append_nil, Nat.reduceAdd, Nat.reduceSub, List.getD_cons_zero, List.getD_cons_succ]
      simp -implicitDefEqProofs (maxSteps := 2000000) (disch := first | assumption | (refine Shut.mk ?_; kernel_rfl) | omega | (simp only [List.getElem?_cons_zero, List.getElem?_cons_succ]; done) | (simp only [List.length_append, List.length_cons, List.length_nil, List.length_set, List.length_replicate, List.length_map, List.length_take, List.length_drop] <;> omega) | (fail)) only [↓WD, ↓kAsg, ↓kRet, ↓reduceIte, ↓clash_free, ↓WDD, ↓kOpD_callv, WK, thawAt, evPick, aPut, leavesBody, outA, outS, outSs, idsA, idsL, mapA, calmAs, calmA, calmSl, calmPt, genOf, calmH, calmFrom, calmO, mapAs, maskB, isUndef, tidy, Int.reduceLT, Int.reduceLE, Int.reduceEq, Int.reduceNe, Int.reduceNeg, Int.reduceAdd, Int.reduceSub, Int.reduceMul, Int.reduceToNat, Nat.reduceAdd, Nat.reduceSub, aBuiltin, aAppend, aAppend0, aAppendV, isVec, bears, emptyArr, sliceAs, keeps, aBuildVec, aMakeVec, sliceCells, aBuildSlice, aIndexAddr, aLoad, runOf, ofCells, TY, LB, aLen, withInt, fillA, frzL, listWith, frz, frz0, deep, cellsA, setRun, okCell, List.replicate, notJunk, Nat.reduceMul, Nat.reduceLeDiff, Nat.reducePow, Nat.reduceBEq, boxIds, aResults, aResult, outAs, tupA, evNilCheck, aMove, MD, opds, evOp, asOper, one, two, evCallee, evAssign, aNew, evSlice, evField, evExtract, evFunc, pureOp, isCall, readOp, List.range', back, putBack, fuelR, closed, aStore, thawCells, place, pack, mapO, Nat.reduceEqDiff, Nat.reduceLT, maxNeed, i64_id, frzA, frzAs, memD, lentA, footC, hc]
      simp only [revG, hc, if_false]

theorem ev_rev {L n g : Nat} (hn : 1 ≤ n) (l : List UInt8) (hs : l.length ≤ 50000) (hL : 2 ^ 60 ≤ L) : evCall env L n 38 [.sl 0 g 0 l.length] [.arr (bytesL l) 1 g] = some (.tup [], [.arr (bytesL (revG (l.length + 1) 0 ((l.length : Int) - 1) l).2.2) 1 g]) := by
  have lp : ∀ {R : Type} {n : Nat} {k : Exit → List A → H → Option R}, kLoop env (evCall env L n) L 1 [] (true :: false :: true :: true :: false :: false :: false :: false :: false :: false :: false :: false :: false :: false :: false :: false :: false :: false :: false :: false :: false :: false :: false :: false :: false :: false :: false :: false :: []) (lp_slices_Reverse_byte_byte 0) (false :: true :: false :: false :: true :: true :: true :: true :: true :: true :: true :: true :: true :: true :: true :: true :: true :: true :: true :: true :: true :: true :: true :: true :: true :: true :: true :: true :: []) L (.sl 0 g 0 l.length :: .junk :: .d (.int .i64 0) :: .d (.int .i64 (((l.length : Int) - 1))) :: .junk :: .junk :: .junk :: .junk :: .junk :: .junk :: .junk :: .junk :: .junk :: .junk :: .junk :: .junk :: .junk :: .junk :: .junk :: .junk :: .junk :: .junk :: .junk :: .junk :: .junk :: .junk :: .junk :: .junk :: []) [.arr (bytesL l) 1 g] k
    = k (.exit 0) (.sl 0 g 0 l.length :: .junk :: .d (.int .i64 (((revG (l.length + 1) 0 ((l.length : Int) - 1) l).1))) :: .d (.int .i64 (((revG (l.length + 1) 0 ((l.length : Int) - 1) l).2.1))) :: .junk :: .junk :: .junk :: .junk :: .junk :: .junk :: .junk :: .junk :: .junk :: .junk :: .junk :: .junk :: .junk :: .junk :: .junk :: .junk :: .junk :: .junk :: .junk :: .junk :: .junk :: .junk :: .junk :: .junk :: []) [.arr (bytesL (revG (l.length + 1) 0 ((l.length : Int) - 1) l).2.2) 1 g] :=
    fun {R n k} => loop_rev (l.length + 1) 0 _ L l l.length (Int.le_refl _) (by omega) (by omega) (by omega) rfl hs (by omega)
  have loop_a := @lp
  obtain ⟨n, rfl⟩ : ∃ m, n = m + 1 := ⟨n - 1, by omega⟩
  rw [fn_slices_Reverse_byte_byte]
  simp only [S_slices_Reverse_byte_byte, Tryd.f38, slimF, slimL, lpOf, codeOf, Option.getD_some, slim, loops, List.length_nil, Nat.add_zero, Nat.zero_add, slimO, slimG, List.map_cons, List.map_nil, List.getElem?_cons_zero, List.getElem?_cons_succ, Option.bind_some, Bool.false_eq_true, if_false, if_true, List.length_cons, List.replicate, List.cons_append, List.nil_append, List.append_nil, Nat.reduceAdd, Nat.reduceSub, List.getD_cons_zero, List.getD_cons_succ]
  simp -implicitDefEqProofs (maxSteps := 2000000) (disch := first | assumption | (refine Shut.mk ?_; kernel_rfl) | omega | (simp only [List.getElem?_cons_zero, List.getElem?_cons_succ]; done) | (simp only [List.length_append, List.length_cons, List.length_nil, List.length_set, List.length_replicate, List.length_map, List.length_take, List.length_drop] <;> omega) | (fail)) only [↓WD, ↓kAsg, ↓kRet, ↓reduceIte, ↓clash_free, ↓WDD, ↓kOpD_callv, WK, thawAt, evPick, aPut, leavesBody, outA, outS, outSs, idsA, idsL, mapA, calmAs, calmA, calmSl, calmPt, genOf, calmH, calmFrom, calmO, mapAs, maskB, isUndef, tidy, Int.reduceLT, Int.reduceLE, Int.reduceEq, Int.reduceNe, Int.reduceNeg, Int.reduceAdd, Int.reduceSub, Int.reduceMul, Int.reduceToNat, Nat.reduceAdd, Nat.reduceSub, aBuiltin, aAppend, aAppend0, aAppendV, isVec, bears, emptyArr, sliceAs, keeps, aBuildVec, aMakeVec, sliceCells, aBuildSlice, aIndexAddr, aLoad, runOf, ofCells, TY, LB, aLen, withInt, fillA, frzL, listWith, frz, frz0, deep, cellsA, setRun, okCell, List.replicate, notJunk, Nat.reduceMul, Nat.reduceLeDiff, Nat.reducePow, Nat.reduceBEq, boxIds, aResults, aResult, outAs, tupA, evNilCheck, aMove, MD, opds, evOp, asOper, one, two, evCallee, evAssign, aNew, evSlice, evField, evExtract, evFunc, pureOp, isCall, readOp, List.range', back, putBack, fuelR, closed, aStore, thawCells, place, pack, mapO, Nat.reduceEqDiff, Nat.reduceLT, maxNeed, i64_id, frzA, frzAs, memD, lentA, footC, ↓loop_a]

theorem kc_rev {R : Type} {L n id g : Nat} {hq : H} {k : A → H → Option R} (hn : 1 ≤ n) (l : List UInt8) (hi : hq[id]? = some (.arr (bytesL l) 1 g)) (hs : l.length ≤ 50000) (hL : 2 ^ 60 ≤ L) : kCall env (evCall env L n) hq 38 [.sl id g 0 l.length] k = k (.tup []) (hq.set id (.arr (bytesL (revG (l.length + 1) 0 ((l.length : Int) - 1) l).2.2) 1 g)) :=
  kCall_ref hi (by simp [idsL, idsA]) mode_slices_Reverse_byte_byte rfl (by simpa [mapAs, mapA, place] using ev_rev hn l hs hL)

/-! ### counting -/

/-- The letters of the word with a number, the last first. -/
def waGo (ls : List Int) : Nat → Int → List UInt8 → Bool × Int × List UInt8
  | 0, n, o => (false, n, o)
  | j + 1, n, o => if 0 < n then (if ls.length = 0 ∨ o.length = 7 then (false, n, o) else waGo ls j ((n - 1) / ls.length) (o ++ [byteI (ls.getD ((n - 1) % ls.length).toNat 0)])) else (true, n, o)

theorem waGo_mem {ls : List Int} : ∀ (j : Nat) (n : Int) (o : List UInt8), o.length ≤ 7 → (waGo ls j n o).2.2.length ≤ 7 ∧ ∀ b ∈ (waGo ls j n o).2.2, b ∈ o ∨ ∃ l ∈ ls, b = byteI l
  | 0, n, o, ho => ⟨ho, fun b h => .inl h⟩
  | j + 1, n, o, ho => by
    unfold waGo
    split
    · split
      · exact ⟨ho, fun b h => .inl h⟩
      · rename_i hlt hne
        have hpos : 0 < ls.length := by omega
        have hm : ((n - 1) % (ls.length : Int)).toNat < ls.length := by
          have h1 := Int.emod_nonneg (n - 1) (b := (ls.length : Int)) (by omega)
          have h2 := Int.emod_lt_of_pos (n - 1) (b := (ls.length : Int)) (by omega)
          omega
        have ih := waGo_mem (ls := ls) j ((n - 1) / ls.length) (o ++ [byteI (ls.getD ((n - 1) % ls.length).toNat 0)]) (by simp; omega)
        refine ⟨ih.1, fun b hb => ?_⟩
        rcases ih.2 b hb with h | h
        · rcases List.mem_append.1 h with h | h
          · exact .inl h
          · refine .inr ⟨_, ?_, List.mem_singleton.1 h⟩
            rw [List.getD_eq_getElem?_getD, List.getElem?_eq_getElem hm]
            exact List.getElem_mem hm
        · exact .inr h
    · exact ⟨ho, fun b h => .inl h⟩

/-- The word with a number, and whether there is one. -/
def wordAt (n al : Int) : List UInt8 × Bool :=
  if isAlpha al && decide (0 ≤ n) then
    (if (waGo (letters al) 8 n []).1 then ((revG ((waGo (letters al) 8 n []).2.2.length + 1) 0 (((waGo (letters al) 8 n []).2.2.length : Int) - 1) (waGo (letters al) 8 n []).2.2).2.2, true) else ([], false))
  else ([], false)

theorem wordAt_in {n al : Int} (h : (wordAt n al).2 = true) : wordIn al (wordAt n al).1 = true := by
  unfold wordAt at h ⊢
  split at h
  · rename_i hc
    rw [if_pos hc]
    split at h
    · rename_i hw
      rw [if_pos hw]
      simp only [Bool.and_eq_true] at hc
      obtain ⟨h1, h2⟩ := waGo_mem (ls := letters al) 8 n [] (by simp)
      obtain ⟨h3, h4⟩ := revG_props ((waGo (letters al) 8 n []).2.2.length + 1) 0 (((waGo (letters al) 8 n []).2.2.length : Int) - 1) (waGo (letters al) 8 n []).2.2 (Int.le_refl _) (by omega)
      unfold wordIn
      simp only [Bool.and_eq_true, decide_eq_true_eq, List.all_eq_true]
      refine ⟨⟨hc.1, by omega⟩, fun b hb => ?_⟩
      rcases h2 b (h4 b hb) with h | ⟨l, hl, rfl⟩
      · cases h
      · unfold letters at hl
        rw [List.mem_filter] at hl
        have hl6 : 0 ≤ l ∧ l ≤ 5 := by
          have := hl.1
          simp only [List.mem_cons, List.not_mem_nil, or_false] at this
          omega
        unfold inB okB
        rw [ltr_byteI hl6.1 hl6.2, hl.2]
        simp [isLet]
        omega
    · cases h
  · cases h

theorem loop_i_WordAt {R : Type} {L n : Nat} (hn : 1 ≤ n) {ls : List Int} (hls : ls.length ≤ 6) (hlv : ∀ l ∈ ls, 0 ≤ l ∧ l ≤ 5) {k : Exit → List A → H → Option R} : ∀ (j : Nat) (c : Int) (m : Nat) (o : List UInt8) (len : Nat) (hl : len = o.length) (ho : o.length + j = 8) (hj : 1 ≤ j) (hm : j < m) (hc0 : 0 ≤ c) (hc1 : c ≤ 1000000),
    kLoop env (evCall env L n) L 0 [0, 0, 0, 0, 0, 0, 0, 2] (true :: false :: false :: false :: true :: true :: true :: true :: false :: false :: false :: false :: false :: false :: false :: false :: false :: false :: false :: false :: false :: false :: false :: false :: false :: false :: false :: false :: false :: false :: false :: false :: false :: false :: false :: false :: false :: false :: false :: false :: false :: false :: false :: false :: false :: false :: false :: false :: []) (lp_i_WordAt 0) (false :: true :: true :: true :: false :: false :: false :: false :: true :: true :: true :: true :: true :: true :: true :: true :: true :: true :: true :: true :: true :: true :: true :: true :: true :: true :: true :: true :: true :: true :: true :: true :: true :: true :: true :: true :: true :: true :: true :: true :: true :: true :: true :: true :: true :: true :: true :: true :: []) m (.d (.int .i64 c) :: .junk :: .junk :: .junk :: .d (.str ([])) :: .d (.bool false) :: .d (.ivs ls.length (ints ls)) :: .sl 0 0 0 len :: .junk :: .junk :: .junk :: .junk :: .junk :: .junk :: .junk :: .junk :: .junk :: .junk :: .junk :: .junk :: .junk :: .junk :: .junk :: .junk :: .junk :: .junk :: .junk :: .junk :: .junk :: .junk :: .junk :: .junk :: .junk :: .junk :: .junk :: .junk :: .junk :: .junk :: .junk :: .junk :: .junk :: .junk :: .junk :: .junk :: .junk :: .junk :: .junk :: .junk :: []) [.arr (bytesL o) 1 0] k
    = if (waGo ls j c o).1 then k (.exit 0) (.d (.int .i64 (((waGo ls j c o).2.1))) :: .junk :: .junk :: .junk :: .d (.str ([])) :: .d (.bool false) :: .d (.ivs ls.length (ints ls)) :: .sl 0 0 0 (waGo ls j c o).2.2.length :: .junk :: .junk :: .junk :: .junk :: .junk :: .junk :: .junk :: .junk :: .junk :: .junk :: .junk :: .junk :: .junk :: .junk :: .junk :: .junk :: .junk :: .junk :: .junk :: .junk :: .junk :: .junk :: .junk :: .junk :: .junk :: .junk :: .junk :: .junk :: .junk :: .junk :: .junk :: .junk :: .junk :: .junk :: .junk :: .junk :: .junk :: .junk :: .junk :: .junk :: []) [.arr (bytesL (waGo ls j c o).2.2) 1 0] else k .ret (.d (.int .i64 (((waGo ls j c o).2.1))) :: .junk :: .junk :: .junk :: .d (.str ([])) :: .d (.bool false) :: .d (.ivs ls.length (ints ls)) :: .sl 0 0 0 (waGo ls j c o).2.2.length :: .junk :: .junk :: .junk :: .junk :: .junk :: .junk :: .junk :: .junk :: .junk :: .junk :: .junk :: .junk :: .junk :: .junk :: .junk :: .junk :: .junk :: .junk :: .junk :: .junk :: .junk :: .junk :: .junk :: .junk :: .junk :: .junk :: .junk :: .junk :: .junk :: .junk :: .junk :: .junk :: .junk :: .junk :: .junk :: .junk :: .junk :: .junk :: .junk :: .junk :: []) [.arr (bytesL (waGo ls j c o).2.2) 1 0] := by
  intro j
  induction j with
  | zero => intro c m o len hl ho hj; omega
  | succ j ih =>
    intro c m o len hl ho hj hm hc0 hc1
    obtain ⟨m, rfl⟩ : ∃ q, m = q + 1 := ⟨m - 1, by omega⟩
    subst hl
    by_cases h1 : 0 < c
    · by_cases h2 : ls.length = 0
      · have h2' : (ls.length : Int) = 0 := by omega
        rw [step_i_WordAt_0]
        simp only [S_i_WordAt_0, Tryd.f10, slimF, slimL, lpOf, codeOf, Option.getD_some, slim, loops, List.length_nil, Nat.add_zero, Nat.zero_add, slimO, slimG, List.map_cons, List.map_nil, List.getElem?_cons_zero, List.getElem?_cons_succ, Option.bind_some, Bool.false_eq_true, if_false, if_true, List.length_cons, List.replicate, List.cons_append, List.nil_append, List.append_nil, Nat.reduceAdd, Nat.reduceSub, List.getD_cons_zero, List.getD_cons_succ]
        simp -implicitDefEqProofs (maxSteps := 2000000) (disch := first | assumption | (refine Shut.mk ?_; kernel_rfl) | omega | (simp only [List.getElem?_cons_zero, List.getElem?_cons_succ]; done) | (simp only [List.length_append, List.length_cons, List.length_nil, List.length_set, List.length_replicate, List.length_map, List.length_take, List.length_drop] <;> omega) | (fail)) only [↓WD, ↓kAsg, ↓kRet, ↓reduceIte, ↓clash_free, ↓WDD, ↓kOpD_callv, WK, thawAt, evPick, aPut, leavesBody, outA, outS, outSs, idsA, idsL, mapA, calmAs, calmA, calmSl, calmPt, genOf, calmH, calmFrom, calmO, mapAs, maskB, isUndef, tidy, Int.reduceLT, Int.reduceLE, Int.reduceEq, Int.reduceNe, Int.reduceNeg, Int.reduceAdd, Int.reduceSub, Int.reduceMul, Int.reduceToNat, Nat.reduceAdd, Nat.reduceSub, aBuiltin, aAppend, aAppend0, aAppendV, isVec, bears, emptyArr, sliceAs, keeps, aBuildVec, aMakeVec, sliceCells, aBuildSlice, aIndexAddr, aLoad, runOf, ofCells, TY, LB, aLen, withInt, fillA, frzL, listWith, frz, frz0, deep, cellsA, setRun, okCell, List.replicate, notJunk, Nat.reduceMul, Nat.reduceLeDiff, Nat.reducePow, Nat.reduceBEq, boxIds, aResults, aResult, outAs, tupA, evNilCheck, aMove, MD, opds, evOp, asOper, one, two, evCallee, evAssign, aNew, evSlice, evField, evExtract, evFunc, pureOp, isCall, readOp, List.range', back, putBack, fuelR, closed, aStore, thawCells, place, pack, mapO, Nat.reduceEqDiff, Nat.reduceLT, maxNeed, i64_id, frzA, frzAs, memD, lentA, footC, ↓kc_i_isAlphabet, ↓kc_i_lettersOf, ↓kc_i_letterByte, h1, h2']
        simp only [waGo, h1, h2, if_true, true_or, Bool.false_eq_true, if_false]
      · have h2' : ¬ (ls.length : Int) = 0 := by omega
        by_cases h3 : o.length = 7
        · have h3' : (o.length : Int) = 7 := by omega
          rw [step_i_WordAt_0]
          simp only [S_i_WordAt_0, Tryd.f10, slimF, slimL, lpOf, codeOf, Option.getD_some, slim, loops, List.length_nil, Nat.add_zero, Nat.zero_add, slimO, slimG, List.map_cons, List.map_nil, List.getElem?_cons_zero, List.getElem?_cons_succ, Option.bind_some, Bool.false_eq_true, if_false, if_true, List.length_cons, List.replicate, List.cons_append, List.nil_append, List.append_nil, Nat.reduceAdd, Nat.reduceSub, List.getD_cons_zero, List.getD_cons_succ]
          simp -implicitDefEqProofs (maxSteps := 2000000) (disch := first | assumption | (refine Shut.mk ?_; kernel_rfl) | omega | (simp only [List.getElem?_cons_zero, List.getElem?_cons_succ]; done) | (simp only [List.length_append, List.length_cons, List.length_nil, List.length_set, List.length_replicate, List.length_map, List.length_take, List.length_drop] <;> omega) | (fail)) only [↓WD, ↓kAsg, ↓kRet, ↓reduceIte, ↓clash_free, ↓WDD, ↓kOpD_callv, WK, thawAt, evPick, aPut, leavesBody, outA, outS, outSs, idsA, idsL, mapA, calmAs, calmA, calmSl, calmPt, genOf, calmH, calmFrom, calmO, mapAs, maskB, isUndef, tidy, Int.reduceLT, Int.reduceLE, Int.reduceEq, Int.reduceNe, Int.reduceNeg, Int.reduceAdd, Int.reduceSub, Int.reduceMul, Int.reduceToNat, Nat.reduceAdd, Nat.reduceSub, aBuiltin, aAppend, aAppend0, aAppendV, isVec, bears, emptyArr, sliceAs, keeps, aBuildVec, aMakeVec, sliceCells, aBuildSlice, aIndexAddr, aLoad, runOf, ofCells, TY, LB, aLen, withInt, fillA, frzL, listWith, frz, frz0, deep, cellsA, setRun, okCell, List.replicate, notJunk, Nat.reduceMul, Nat.reduceLeDiff, Nat.reducePow, Nat.reduceBEq, boxIds, aResults, aResult, outAs, tupA, evNilCheck, aMove, MD, opds, evOp, asOper, one, two, evCallee, evAssign, aNew, evSlice, evField, evExtract, evFunc, pureOp, isCall, readOp, List.range', back, putBack, fuelR, closed, aStore, thawCells, place, pack, mapO, Nat.reduceEqDiff, Nat.reduceLT, maxNeed, i64_id, frzA, frzAs, memD, lentA, footC, ↓kc_i_isAlphabet, ↓kc_i_lettersOf, ↓kc_i_letterByte, h1, h2', h3']
          simp only [waGo, h1, h2, h3, if_true, or_true, Bool.false_eq_true, if_false]
        · have h3' : ¬ (o.length : Int) = 7 := by omega
          have hpos : 0 < (ls.length : Int) := by omega
          have q1 := Int.emod_nonneg (c - 1) (b := (ls.length : Int)) (by omega)
          have q2 := Int.emod_lt_of_pos (c - 1) hpos
          have q3 : (c - 1).tmod (ls.length : Int) = (c - 1) % ls.length := Int.tmod_eq_emod_of_nonneg (by omega)
          have q4 : (c - 1).tdiv (ls.length : Int) = (c - 1) / ls.length := Int.tdiv_eq_ediv_of_nonneg (by omega)
          have q5 : 0 ≤ (c - 1) / (ls.length : Int) := Int.ediv_nonneg (by omega) (by omega)
          have q6 : (c - 1) / (ls.length : Int) ≤ c - 1 := Int.ediv_le_self _ (by omega)
          have q7 : IntKind.i64.wrap ((c - 1) / (ls.length : Int)) = (c - 1) / ls.length := i64_id (by omega) (by omega)
          have hk : ((c - 1) % (ls.length : Int)).toNat < ls.length := by omega
          have hmem : ls.getD ((c - 1) % (ls.length : Int)).toNat 0 ∈ ls := by
            rw [List.getD_eq_getElem?_getD, List.getElem?_eq_getElem hk]; exact List.getElem_mem hk
          have hb := hlv _ hmem
          have hb0 := hb.1
          have hb5 := hb.2
          have hlen : o.length + 1 = (o ++ [byteI (ls.getD ((c - 1) % (ls.length : Int)).toNat 0)]).length := by simp
          have ih' := ih ((c - 1) / ls.length) m (o ++ [byteI (ls.getD ((c - 1) % ls.length).toNat 0)]) (o.length + 1) hlen (by simp; omega) (by omega) (by omega) q5 (by omega)
          clear ih hmem hb
          rw [step_i_WordAt_0]
          simp only [S_i_WordAt_0, Tryd.f10, slimF, slimL, lpOf, codeOf, Option.getD_some, slim, loops, List.length_nil, Nat.add_zero, Nat.zero_add, slimO, slimG, List.map_cons, List.map_nil, List.getElem?_cons_zero, List.getElem?_cons_succ, Option.bind_some, Bool.false_eq_true, if_false, if_true, List.length_cons, List.replicate, List.cons_append, List.nil_append, List.append_nil, Nat.reduceAdd, Nat.reduceSub, List.getD_cons_zero, List.getD_cons_succ]
          simp -implicitDefEqProofs (maxSteps := 2000000) (disch := first | assumption | (refine Shut.mk ?_; kernel_rfl) | omega | (simp only [List.getElem?_cons_zero, List.getElem?_cons_succ]; done) | (simp only [List.length_append, List.length_cons, List.length_nil, List.length_set, List.length_replicate, List.length_map, List.length_take, List.length_drop] <;> omega) | (fail)) only [↓WD, ↓kAsg, ↓kRet, ↓reduceIte, ↓clash_free, ↓WDD, ↓kOpD_callv, WK, thawAt, evPick, aPut, leavesBody, outA, outS, outSs, idsA, idsL, mapA, calmAs, calmA, calmSl, calmPt, genOf, calmH, calmFrom, calmO, mapAs, maskB, isUndef, tidy, Int.reduceLT, Int.reduceLE, Int.reduceEq, Int.reduceNe, Int.reduceNeg, Int.reduceAdd, Int.reduceSub, Int.reduceMul, Int.reduceToNat, Nat.reduceAdd, Nat.reduceSub, aBuiltin, aAppend, aAppend0, aAppendV, isVec, bears, emptyArr, sliceAs, keeps, aBuildVec, aMakeVec, sliceCells, aBuildSlice, aIndexAddr, aLoad, runOf, ofCells, TY, LB, aLen, withInt, fillA, frzL, listWith, frz, frz0, deep, cellsA, setRun, okCell, List.replicate, notJunk, Nat.reduceMul, Nat.reduceLeDiff, Nat.reducePow, Nat.reduceBEq, boxIds, aResults, aResult, outAs, tupA, evNilCheck, aMove, MD, opds, evOp, asOper, one, two, evCallee, evAssign, aNew, evSlice, evField, evExtract, evFunc, pureOp, isCall, readOp, List.range', back, putBack, fuelR, closed, aStore, thawCells, place, pack, mapO, Nat.reduceEqDiff, Nat.reduceLT, maxNeed, i64_id, frzA, frzAs, memD, lentA, footC, ↓kc_i_isAlphabet, ↓kc_i_lettersOf, h1, h2', h3', q3, q4, q7, ↓kc_i_letterByte, ints_head, u_bytes, elemT_bytes, e_uint8, z_uint8, c_uint8, bytesL_length, bytesL_take, bytesL_snoc, ↓ih']
          simp only [waGo, h1, h2, h3, if_true, if_false, or_self]
    · rw [step_i_WordAt_0]
      simp only [S_i_WordAt_0, Tryd.f10, slimF, slimL, lpOf, codeOf, Option.getD_some, slim, loops, List.length_nil, Nat.add_zero, Nat.zero_add, slimO, slimG, List.map_cons, List.map_nil, List.getElem?_cons_zero, List.getElem?_cons_succ, Option.bind_some, Bool.false_eq_true, if_false, if_true, List.length_cons, List.replicate, List.cons_append, List.nil_append, List.append_nil, Nat.reduceAdd, Nat.reduceSub, List.getD_cons_zero, List.getD_cons_succ]
      simp -implicitDefEqProofs (maxSteps := 2000000) (disch := first | assumption | (refine Shut.mk ?_; kernel_rfl) | omega | (simp only [List.getElem?_cons_zero, List.getElem?_cons_succ]; done) | (simp only [List.length_append, List.length_cons, List.length_nil, List.length_set, List.length_replicate, List.length_map, List.length_take, List.length_drop] <;> omega) | (fail)) only [↓WD, ↓kAsg, ↓kRet, ↓reduceIte, ↓clash_free, ↓WDD, ↓kOpD_callv, WK, thawAt, evPick, aPut, leavesBody, outA, outS, outSs, idsA, idsL, mapA, calmAs, calmA, calmSl, calmPt, genOf, calmH, calmFrom, calmO, mapAs, maskB, isUndef, tidy, Int.reduceLT, Int.reduceLE, Int.reduceEq, Int.reduceNe, Int.reduceNeg, Int.reduceAdd, Int.reduceSub, Int.reduceMul, Int.reduceToNat, Nat.reduceAdd, Nat.reduceSub, aBuiltin, aAppend, aAppend0, aAppendV, isVec, bears, emptyArr, sliceAs, keeps, aBuildVec, aMakeVec, sliceCells, aBuildSlice, aIndexAddr, aLoad, runOf, ofCells, TY, LB, aLen, withInt, fillA, frzL, listWith, frz, frz0, deep, cellsA, setRun, okCell, List.replicate, notJunk, Nat.reduceMul, Nat.reduceLeDiff, Nat.reducePow, Nat.reduceBEq, boxIds, aResults, aResult, outAs, tupA, evNilCheck, aMove, MD, opds, evOp, asOper, one, two, evCallee, evAssign, aNew, evSlice, evField, evExtract, evFunc, pureOp, isCall, readOp, List.range', back, putBack, fuelR, closed, aStore, thawCells, place, pack, mapO, Nat.reduceEqDiff, Nat.reduceLT, maxNeed, i64_id, frzA, frzAs, memD, lentA, footC, ↓kc_i_isAlphabet, ↓kc_i_lettersOf, ↓kc_i_letterByte, h1]
      simp only [waGo, h1, if_false, if_true]

theorem letters_let {al : Int} : ∀ l ∈ letters al, 0 ≤ l ∧ l ≤ 5 := by
  intro l hl
  unfold letters at hl
  have := (List.mem_filter.1 hl).1
  simp only [List.mem_cons, List.not_mem_nil, or_false] at this
  omega

theorem letters_le6 (al : Int) : (letters al).length ≤ 6 := by
  unfold letters
  exact Nat.le_trans (List.length_filter_le _ _) (by simp)

theorem ev_i_WordAt {L n : Nat} (hn : 3 ≤ n) (c al : Int) (hc1 : c ≤ 1000000) (hL : 2 ^ 60 ≤ L) : evCall env L n 10 [.d (.int .i64 c), .d (.int .i64 al)] [] = some (.tup [.d (.str (wordAt c al).1), .d (.bool (wordAt c al).2)], []) := by
  unfold wordAt
  cases ha : isAlpha al with
  | false =>
    obtain ⟨n, rfl⟩ : ∃ m, n = m + 1 := ⟨n - 1, by omega⟩
    rw [fn_i_WordAt]
    simp only [S_i_WordAt, Tryd.f10, slimF, slimL, lpOf, codeOf, Option.getD_some, slim, loops, List.length_nil, Nat.add_zero, Nat.zero_add, slimO, slimG, List.map_cons, List.map_nil, List.getElem?_cons_zero, List.getElem?_cons_succ, Option.bind_some, Bool.false_eq_true, if_false, if_true, List.length_cons, List.replicate, List.cons_append, List.nil_append, List.append_nil, Nat.reduceAdd, Nat.reduceSub, List.getD_cons_zero, List.getD_cons_succ]
    simp -implicitDefEqProofs (maxSteps := 2000000) (disch := first | assumption | (refine Shut.mk ?_; kernel_rfl) | omega | (simp only [List.getElem?_cons_zero, List.getElem?_cons_succ]; done) | (simp only [List.length_append, List.length_cons, List.length_nil, List.length_set, List.length_replicate, List.length_map, List.length_take, List.length_drop] <;> omega) | (fail)) only [↓WD, ↓kAsg, ↓kRet, ↓reduceIte, ↓clash_free, ↓WDD, ↓kOpD_callv, WK, thawAt, evPick, aPut, leavesBody, outA, outS, outSs, idsA, idsL, mapA, calmAs, calmA, calmSl, calmPt, genOf, calmH, calmFrom, calmO, mapAs, maskB, isUndef, tidy, Int.reduceLT, Int.reduceLE, Int.reduceEq, Int.reduceNe, Int.reduceNeg, Int.reduceAdd, Int.reduceSub, Int.reduceMul, Int.reduceToNat, Nat.reduceAdd, Nat.reduceSub, aBuiltin, aAppend, aAppend0, aAppendV, isVec, bears, emptyArr, sliceAs, keeps, aBuildVec, aMakeVec, sliceCells, aBuildSlice, aIndexAddr, aLoad, runOf, ofCells, TY, LB, aLen, withInt, fillA, frzL, listWith, frz, frz0, deep, cellsA, setRun, okCell, List.replicate, notJunk, Nat.reduceMul, Nat.reduceLeDiff, Nat.reducePow, Nat.reduceBEq, boxIds, aResults, aResult, outAs, tupA, evNilCheck, aMove, MD, opds, evOp, asOper, one, two, evCallee, evAssign, aNew, evSlice, evField, evExtract, evFunc, pureOp, isCall, readOp, List.range', back, putBack, fuelR, closed, aStore, thawCells, place, pack, mapO, Nat.reduceEqDiff, Nat.reduceLT, maxNeed, i64_id, frzA, frzAs, memD, lentA, footC, ↓kc_i_isAlphabet, ↓kc_i_lettersOf, ↓kc_i_letterByte, ↓loop_i_WordAt, ha, Bool.false_and]
  | true =>
    by_cases h0 : c < 0
    · have h1 : decide (0 ≤ c) = false := by simp; omega
      obtain ⟨n, rfl⟩ : ∃ m, n = m + 1 := ⟨n - 1, by omega⟩
      rw [fn_i_WordAt]
      simp only [S_i_WordAt, Tryd.f10, slimF, slimL, lpOf, codeOf, Option.getD_some, slim, loops, List.length_nil, Nat.add_zero, Nat.zero_add, slimO, slimG, List.map_cons, List.map_nil, List.getElem?_cons_zero, List.getElem?_cons_succ, Option.bind_some, Bool.false_eq_true, if_false, if_true, List.length_cons, List.replicate, List.cons_append, List.nil_append, List.append_nil, Nat.reduceAdd, Nat.reduceSub, List.getD_cons_zero, List.getD_cons_succ]
      simp -implicitDefEqProofs (maxSteps := 2000000) (disch := first | assumption | (refine Shut.mk ?_; kernel_rfl) | omega | (simp only [List.getElem?_cons_zero, List.getElem?_cons_succ]; done) | (simp only [List.length_append, List.length_cons, List.length_nil, List.length_set, List.length_replicate, List.length_map, List.length_take, List.length_drop] <;> omega) | (fail)) only [↓WD, ↓kAsg, ↓kRet, ↓reduceIte, ↓clash_free, ↓WDD, ↓kOpD_callv, WK, thawAt, evPick, aPut, leavesBody, outA, outS, outSs, idsA, idsL, mapA, calmAs, calmA, calmSl, calmPt, genOf, calmH, calmFrom, calmO, mapAs, maskB, isUndef, tidy, Int.reduceLT, Int.reduceLE, Int.reduceEq, Int.reduceNe, Int.reduceNeg, Int.reduceAdd, Int.reduceSub, Int.reduceMul, Int.reduceToNat, Nat.reduceAdd, Nat.reduceSub, aBuiltin, aAppend, aAppend0, aAppendV, isVec, bears, emptyArr, sliceAs, keeps, aBuildVec, aMakeVec, sliceCells, aBuildSlice, aIndexAddr, aLoad, runOf, ofCells, TY, LB, aLen, withInt, fillA, frzL, listWith, frz, frz0, deep, cellsA, setRun, okCell, List.replicate, notJunk, Nat.reduceMul, Nat.reduceLeDiff, Nat.reducePow, Nat.reduceBEq, boxIds, aResults, aResult, outAs, tupA, evNilCheck, aMove, MD, opds, evOp, asOper, one, two, evCallee, evAssign, aNew, evSlice, evField, evExtract, evFunc, pureOp, isCall, readOp, List.range', back, putBack, fuelR, closed, aStore, thawCells, place, pack, mapO, Nat.reduceEqDiff, Nat.reduceLT, maxNeed, i64_id, frzA, frzAs, memD, lentA, footC, ↓kc_i_isAlphabet, ↓kc_i_lettersOf, ↓kc_i_letterByte, ↓loop_i_WordAt, ha, h0, h1, Bool.and_false]
    · have h1 : decide (0 ≤ c) = true := by simp; omega
      have hl6 := letters_le6 al
      have loop_b := fun {R : Type} {n : Nat} {k : Exit → List A → H → Option R} (hn : 1 ≤ n) => @loop_i_WordAt R L n hn (letters al) hl6 letters_let k 8 c L [] 0 rfl rfl (by omega) (by omega) (by omega) hc1
      cases hw : (waGo (letters al) 8 c []).1 with
      | false =>
        obtain ⟨n, rfl⟩ : ∃ m, n = m + 1 := ⟨n - 1, by omega⟩
        rw [fn_i_WordAt]
        simp only [S_i_WordAt, Tryd.f10, slimF, slimL, lpOf, codeOf, Option.getD_some, slim, loops, List.length_nil, Nat.add_zero, Nat.zero_add, slimO, slimG, List.map_cons, List.map_nil, List.getElem?_cons_zero, List.getElem?_cons_succ, Option.bind_some, Bool.false_eq_true, if_false, if_true, List.length_cons, List.replicate, List.cons_append, List.nil_append, List.append_nil, Nat.reduceAdd, Nat.reduceSub, List.getD_cons_zero, List.getD_cons_succ]
        simp -implicitDefEqProofs (maxSteps := 2000000) (disch := first | assumption | (refine Shut.mk ?_; kernel_rfl) | omega | (simp only [List.getElem?_cons_zero, List.getElem?_cons_succ]; done) | (simp only [List.length_append, List.length_cons, List.length_nil, List.length_set, List.length_replicate, List.length_map, List.length_take, List.length_drop] <;> omega) | (fail)) only [↓WD, ↓kAsg, ↓kRet, ↓reduceIte, ↓clash_free, ↓WDD, ↓kOpD_callv, WK, thawAt, evPick, aPut, leavesBody, outA, outS, outSs, idsA, idsL, mapA, calmAs, calmA, calmSl, calmPt, genOf, calmH, calmFrom, calmO, mapAs, maskB, isUndef, tidy, Int.reduceLT, Int.reduceLE, Int.reduceEq, Int.reduceNe, Int.reduceNeg, Int.reduceAdd, Int.reduceSub, Int.reduceMul, Int.reduceToNat, Nat.reduceAdd, Nat.reduceSub, aBuiltin, aAppend, aAppend0, aAppendV, isVec, bears, emptyArr, sliceAs, keeps, aBuildVec, aMakeVec, sliceCells, aBuildSlice, aIndexAddr, aLoad, runOf, ofCells, TY, LB, aLen, withInt, fillA, frzL, listWith, frz, frz0, deep, cellsA, setRun, okCell, List.replicate, notJunk, Nat.reduceMul, Nat.reduceLeDiff, Nat.reducePow, Nat.reduceBEq, boxIds, aResults, aResult, outAs, tupA, evNilCheck, aMove, MD, opds, evOp, asOper, one, two, evCallee, evAssign, aNew, evSlice, evField, evExtract, evFunc, pureOp, isCall, readOp, List.range', back, putBack, fuelR, closed, aStore, thawCells, place, pack, mapO, Nat.reduceEqDiff, Nat.reduceLT, maxNeed, i64_id, frzA, frzAs, memD, lentA, footC, ↓kc_i_isAlphabet, ↓kc_i_lettersOf, ↓kc_i_letterByte, ha, h0, h1, nil_bytes, ↓loop_b, hw]
      | true =>
        have hle := (waGo_mem (ls := letters al) 8 c [] (by simp)).1
        have hle2 := (revG_props ((waGo (letters al) 8 c []).2.2.length + 1) 0 (((waGo (letters al) 8 c []).2.2.length : Int) - 1) (waGo (letters al) 8 c []).2.2 (Int.le_refl _) (by omega)).1
        obtain ⟨n, rfl⟩ : ∃ m, n = m + 1 := ⟨n - 1, by omega⟩
        rw [fn_i_WordAt]
        simp only [S_i_WordAt, Tryd.f10, slimF, slimL, lpOf, codeOf, Option.getD_some, slim, loops, List.length_nil, Nat.add_zero, Nat.zero_add, slimO, slimG, List.map_cons, List.map_nil, List.getElem?_cons_zero, List.getElem?_cons_succ, Option.bind_some, Bool.false_eq_true, if_false, if_true, List.length_cons, List.replicate, List.cons_append, List.nil_append, List.append_nil, Nat.reduceAdd, Nat.reduceSub, List.getD_cons_zero, List.getD_cons_succ]
        simp -implicitDefEqProofs (maxSteps := 2000000) (disch := first | assumption | (refine Shut.mk ?_; kernel_rfl) | omega | (simp only [List.getElem?_cons_zero, List.getElem?_cons_succ]; done) | (simp only [List.length_append, List.length_cons, List.length_nil, List.length_set, List.length_replicate, List.length_map, List.length_take, List.length_drop] <;> omega) | (fail)) only [↓WD, ↓kAsg, ↓kRet, ↓reduceIte, ↓clash_free, ↓WDD, ↓kOpD_callv, WK, thawAt, evPick, aPut, leavesBody, outA, outS, outSs, idsA, idsL, mapA, calmAs, calmA, calmSl, calmPt, genOf, calmH, calmFrom, calmO, mapAs, maskB, isUndef, tidy, Int.reduceLT, Int.reduceLE, Int.reduceEq, Int.reduceNe, Int.reduceNeg, Int.reduceAdd, Int.reduceSub, Int.reduceMul, Int.reduceToNat, Nat.reduceAdd, Nat.reduceSub, aBuiltin, aAppend, aAppend0, aAppendV, isVec, bears, emptyArr, sliceAs, keeps, aBuildVec, aMakeVec, sliceCells, aBuildSlice, aIndexAddr, aLoad, runOf, ofCells, TY, LB, aLen, withInt, fillA, frzL, listWith, frz, frz0, deep, cellsA, setRun, okCell, List.replicate, notJunk, Nat.reduceMul, Nat.reduceLeDiff, Nat.reducePow, Nat.reduceBEq, boxIds, aResults, aResult, outAs, tupA, evNilCheck, aMove, MD, opds, evOp, asOper, one, two, evCallee, evAssign, aNew, evSlice, evField, evExtract, evFunc, pureOp, isCall, readOp, List.range', back, putBack, fuelR, closed, aStore, thawCells, place, pack, mapO, Nat.reduceEqDiff, Nat.reduceLT, maxNeed, i64_id, frzA, frzAs, memD, lentA, footC, ↓kc_i_isAlphabet, ↓kc_i_lettersOf, ↓kc_i_letterByte, ha, h0, h1, nil_bytes, ↓loop_b, hw, ↓kc_rev, u_bytes, ↓conv_bytes_str]
theorem kc_i_WordAt {R : Type} {L n : Nat} {hq : H} {k : A → H → Option R} (hn : 3 ≤ n) (c al : Int) (hc1 : c ≤ 1000000) (hL : 2 ^ 60 ≤ L) : kCall env (evCall env L n) hq 10 [.d (.int .i64 c), .d (.int .i64 al)] k = k (.tup [.d (.str (wordAt c al).1), .d (.bool (wordAt c al).2)]) hq :=
  kCall_still rfl (ev_i_WordAt hn c al hc1 hL) rfl (.inl rfl)

end Ev
end Go.Proofs.YtbgjfhbbnmhnjaaDoor
