/-
  What the law FnSwapWord gives.
-/
import Derived.Test.YtidobgmklcbcpaaDraw3
set_option linter.unusedSimpArgs false
set_option linter.unusedVariables false
set_option maxRecDepth 8000
set_option maxHeartbeats 4000000
namespace Go.Proofs.Ytidobgmklcbcpaa
namespace Ev

theorem ltr_byteI {l : Int} (h0 : 0 ≤ l) (h : l ≤ 5) : ltr (byteI l) = l := by
  unfold ltr byteI
  rw [UInt8.toNat_ofNat']
  omega

theorem byteI_ltr {b : UInt8} : byteI (ltr b) = b := by
  have := toNat_lt b
  unfold ltr byteI
  have : (97 + ((b.toNat : Int) - 97)).toNat = b.toNat := by omega
  rw [this]
  simp

theorem swapI_swapI {l x y : Int} : swapI (swapI l x y) x y = l := by
  unfold swapI
  by_cases h1 : l = x
  · by_cases h2 : y = x <;> simp [h1, h2]
  · by_cases h2 : l = y
    · simp [h1, h2]
    · simp [h1, h2]

theorem swapI_comm {l x y : Int} : swapI l y x = swapI l x y := by
  unfold swapI
  by_cases h1 : l = x <;> by_cases h2 : l = y <;> simp_all

theorem swapI_same {l x : Int} : swapI l x x = l := by
  unfold swapI
  by_cases h1 : l = x <;> simp_all

theorem okB_bounds {b : UInt8} (h : okB b = true) : 0 ≤ ltr b ∧ ltr b ≤ 5 := isLet_iff.1 h

theorem swapB_ltr {x y : Int} {b : UInt8} (hb : okB b = true) (hx : isLet x = true) (hy : isLet y = true) : ltr (swapB x y b) = swapI (ltr b) x y := by
  have h1 := okB_bounds hb
  have h2 := isLet_iff.1 hx
  have h3 := isLet_iff.1 hy
  exact ltr_byteI (swapI_let h1.1 h2.1 h3.1) (swapI_le h1.2 h2.2 h3.2)

theorem swapB_ok {x y : Int} {b : UInt8} (hb : okB b = true) (hx : isLet x = true) (hy : isLet y = true) : okB (swapB x y b) = true := by
  have h1 := okB_bounds hb
  have h2 := isLet_iff.1 hx
  have h3 := isLet_iff.1 hy
  unfold okB
  rw [swapB_ltr hb hx hy]
  exact isLet_iff.2 ⟨swapI_let h1.1 h2.1 h3.1, swapI_le h1.2 h2.2 h3.2⟩

theorem swapB_swapB {x y : Int} {b : UInt8} (hb : okB b = true) (hx : isLet x = true) (hy : isLet y = true) : swapB x y (swapB x y b) = b := by
  change byteI (swapI (ltr (swapB x y b)) x y) = b
  rw [swapB_ltr hb hx hy, swapI_swapI, byteI_ltr]

theorem swapWord_map {w : List UInt8} {x y : Int} (hw : wordOK w = true) (hx : isLet x = true) (hy : isLet y = true) : swapWord w x y = w.map (swapB x y) := by
  unfold swapWord; simp [hw, hx, hy]

theorem swapWord_ok {w : List UInt8} {x y : Int} (hw : wordOK w = true) (hx : isLet x = true) (hy : isLet y = true) : wordOK (swapWord w x y) = true := by
  rw [swapWord_map hw hx hy]
  unfold wordOK at hw ⊢
  simp only [Bool.and_eq_true, decide_eq_true_eq, List.length_map, List.all_eq_true, List.mem_map] at hw ⊢
  refine ⟨hw.1, ?_⟩
  rintro b ⟨a, ha, rfl⟩
  exact swapB_ok (hw.2 a ha) hx hy

theorem swapWord_twice {w : List UInt8} {x y : Int} (hw : wordOK w = true) (hx : isLet x = true) (hy : isLet y = true) : swapWord (swapWord w x y) x y = w := by
  rw [swapWord_map (swapWord_ok hw hx hy) hx hy, swapWord_map hw hx hy, List.map_map]
  unfold wordOK at hw
  simp only [Bool.and_eq_true, List.all_eq_true] at hw
  have : ∀ b ∈ w, (swapB x y ∘ swapB x y) b = b := fun b hb => swapB_swapB (hw.2 b hb) hx hy
  rw [List.map_congr_left this]
  simp

theorem swapWord_comm {w : List UInt8} {x y : Int} : swapWord w y x = swapWord w x y := by
  unfold swapWord swapB
  simp only [swapI_comm (x := x) (y := y)]
  cases wordOK w <;> cases isLet x <;> cases isLet y <;> rfl

theorem swapWord_same {w : List UInt8} {x : Int} (hw : wordOK w = true) (hx : isLet x = true) : swapWord w x x = w := by
  rw [swapWord_map hw hx hx]
  unfold swapB
  simp only [swapI_same, byteI_ltr]
  simp

theorem swapWord_none {w : List UInt8} {x y : Int} (h : (wordOK w && isLet x && isLet y) = false) : swapWord w x y = [] := by
  unfold swapWord; rw [h]; rfl

theorem swapWord_len {w : List UInt8} {x y : Int} (hw : wordOK w = true) (hx : isLet x = true) (hy : isLet y = true) : (swapWord w x y).length = w.length := by
  rw [swapWord_map hw hx hy, List.length_map]

theorem ev_FnSwapWord {L n : Nat} (hn : 8 ≤ n) (c : List UInt8) (hL : 2 ^ 60 ≤ L) : evCall env L n 4 [.d (.ivs c.length (bytesL c))] [] = some (.d (.bool true), []) := by
  by_cases hs : (1048576 : Int) < c.length
  · obtain ⟨n, rfl⟩ : ∃ m, n = m + 1 := ⟨n - 1, by omega⟩
    rw [fn_FnSwapWord]
    simp only [S_FnSwapWord, Try.f4, slimF, slimL, lpOf, codeOf, Option.getD_some, slim, loops, List.length_nil, Nat.add_zero, Nat.zero_add, slimO, slimG, List.map_cons, List.map_nil, List.getElem?_cons_zero, List.getElem?_cons_succ, Option.bind_some, Bool.false_eq_true, if_false, if_true, List.length_cons, List.replicate, List.cons_append, List.nil_append, List.append_nil, Nat.reduceAdd, Nat.reduceSub, List.getD_cons_zero, List.getD_cons_succ]
    simp -implicitDefEqProofs (maxSteps := 250000) (disch := first | assumption | (refine Shut.mk ?_; kernel_rfl) | omega | (simp only [List.length_append, List.length_cons, List.length_nil, List.length_set, List.length_replicate, List.length_map, List.length_take, List.length_drop] <;> omega) | (fail)) only [↓WD, ↓kAsg, thawAt, ↓kRet, ↓reduceIte, box_eq, evPick, aUn_not, evBin_add, evBin_sub, evBin_mul, evBin_and, evBin_or, evBin_xor, evBin_andNot, evBin_quo, evBin_rem, evBin_shl, evBin_shr, evBin_lss, evBin_leq, evBin_gtr, evBin_geq, evBin_eql, evBin_neq, ne_eq, not_true_eq_false, if_false, if_true, aPut, List.getD_nil, List.getD_cons_zero, List.getD_cons_succ, List.set_cons_zero, List.set_cons_succ, leavesBody, outA, outS, idsA, idsL, mapA, gc, mapAs, maskB, isUndef, tidy, Bool.not_true, Bool.not_false, Bool.true_eq_false, Bool.false_eq_true, decide_eq_true_eq, decide_eq_false_iff_not, Option.map_some, Option.bind_some, List.append_nil, List.nil_append, List.map_nil, Int.reduceLT, Int.reduceLE, Int.reduceEq, Int.reduceNe, Int.reduceNeg, Int.reduceAdd, Int.reduceSub, Int.reduceMul, Int.reduceToNat, Nat.reduceAdd, Nat.reduceSub, decide_true, decide_false, Bool.not_eq_false', Bool.not_eq_true', aBuiltin, aAppend, sliceCells, aBuildSlice, aIndexAddr, aLoad, runOf, ofCells, TY, LB, aLen, withInt, ite_some, Nat.mul_one, Nat.one_mul, Nat.zero_add, Nat.add_zero, List.getElem?_cons_zero, List.getElem?_cons_succ, List.length_cons, List.length_nil, List.drop_zero, fillA, frzL, listWith, frz, frz0, deep, cellsA, setRun, okCell, List.all_cons, List.all_nil, Bool.and_self, Bool.and_true, Bool.true_and, List.map_cons, List.zip_cons_cons, List.zip_nil_left, List.replicate, List.flatten_cons, List.flatten_nil, List.take_zero, List.take_nil, List.drop_nil, List.cons_append, Bool.or_self, Bool.or_false, Bool.false_or, Nat.not_lt_zero, notJunk, and_self, and_true, true_and, Bool.or_true, Bool.true_or, Option.map_none, List.drop_succ_cons, Nat.reduceMul, Nat.reduceLeDiff, List.take_succ_cons, Nat.reducePow, Nat.lt_irrefl, List.head?_cons, Option.any_some, List.contains_cons, List.contains_nil, Nat.reduceBEq, keepOrd_zero, keepOrd_eq, boxIds, rng0, rng1, rng2, rng3, kFin_eq, aResults, aResult, outAs, tupA, evNilCheck, aMove, ↓clash_free, ↓kOpD_all, opds, evOp, asOper, one, two, evCallee, evAssign, aNew, evSlice, evField, evExtract, evFunc, Option.getD_none, Option.isNone_none, Option.isNone_some, Option.isSome_none, Option.isSome_some, pureOp, isCall, readOp, List.range', back, putBack, fuelR, closed, aStore, thawCells, reach_nil, reach_cons, place, pack, mapO, Nat.reduceEqDiff, Nat.reduceLT, beq_self_eq_true, Nat.succ_ne_self, Nat.zero_ne_one, Nat.one_ne_zero, List.length_append, false_or, or_false, or_true, true_or, maxNeed, i64_id, ↓conv_slb_to, ↓conv_slb_from, ↓conv_sls_to, ↓conv_sls_from, ↓conv_sls_both, hs]
  · obtain ⟨w, x, y, hw, x1, x2, y1, y2, kd⟩ := ex_DrawSwapWord c (by omega)
    cases hg : (wordOK w && isLet x && isLet y) with
    | false =>
      have hsw := swapWord_none hg
      cases ho : wordOK w with
      | false => 
        obtain ⟨n, rfl⟩ : ∃ m, n = m + 1 := ⟨n - 1, by omega⟩
        rw [fn_FnSwapWord]
        simp only [S_FnSwapWord, Try.f4, slimF, slimL, lpOf, codeOf, Option.getD_some, slim, loops, List.length_nil, Nat.add_zero, Nat.zero_add, slimO, slimG, List.map_cons, List.map_nil, List.getElem?_cons_zero, List.getElem?_cons_succ, Option.bind_some, Bool.false_eq_true, if_false, if_true, List.length_cons, List.replicate, List.cons_append, List.nil_append, List.append_nil, Nat.reduceAdd, Nat.reduceSub, List.getD_cons_zero, List.getD_cons_succ]
        simp -implicitDefEqProofs (maxSteps := 250000) (disch := first | assumption | (refine Shut.mk ?_; kernel_rfl) | omega | (simp only [List.length_append, List.length_cons, List.length_nil, List.length_set, List.length_replicate, List.length_map, List.length_take, List.length_drop] <;> omega) | (fail)) only [↓WD, ↓kAsg, thawAt, ↓kRet, ↓reduceIte, box_eq, evPick, aUn_not, evBin_add, evBin_sub, evBin_mul, evBin_and, evBin_or, evBin_xor, evBin_andNot, evBin_quo, evBin_rem, evBin_shl, evBin_shr, evBin_lss, evBin_leq, evBin_gtr, evBin_geq, evBin_eql, evBin_neq, ne_eq, not_true_eq_false, if_false, if_true, aPut, List.getD_nil, List.getD_cons_zero, List.getD_cons_succ, List.set_cons_zero, List.set_cons_succ, leavesBody, outA, outS, idsA, idsL, mapA, gc, mapAs, maskB, isUndef, tidy, Bool.not_true, Bool.not_false, Bool.true_eq_false, Bool.false_eq_true, decide_eq_true_eq, decide_eq_false_iff_not, Option.map_some, Option.bind_some, List.append_nil, List.nil_append, List.map_nil, Int.reduceLT, Int.reduceLE, Int.reduceEq, Int.reduceNe, Int.reduceNeg, Int.reduceAdd, Int.reduceSub, Int.reduceMul, Int.reduceToNat, Nat.reduceAdd, Nat.reduceSub, decide_true, decide_false, Bool.not_eq_false', Bool.not_eq_true', aBuiltin, aAppend, sliceCells, aBuildSlice, aIndexAddr, aLoad, runOf, ofCells, TY, LB, aLen, withInt, ite_some, Nat.mul_one, Nat.one_mul, Nat.zero_add, Nat.add_zero, List.getElem?_cons_zero, List.getElem?_cons_succ, List.length_cons, List.length_nil, List.drop_zero, fillA, frzL, listWith, frz, frz0, deep, cellsA, setRun, okCell, List.all_cons, List.all_nil, Bool.and_self, Bool.and_true, Bool.true_and, List.map_cons, List.zip_cons_cons, List.zip_nil_left, List.replicate, List.flatten_cons, List.flatten_nil, List.take_zero, List.take_nil, List.drop_nil, List.cons_append, Bool.or_self, Bool.or_false, Bool.false_or, Nat.not_lt_zero, notJunk, and_self, and_true, true_and, Bool.or_true, Bool.true_or, Option.map_none, List.drop_succ_cons, Nat.reduceMul, Nat.reduceLeDiff, List.take_succ_cons, Nat.reducePow, Nat.lt_irrefl, List.head?_cons, Option.any_some, List.contains_cons, List.contains_nil, Nat.reduceBEq, keepOrd_zero, keepOrd_eq, boxIds, rng0, rng1, rng2, rng3, kFin_eq, aResults, aResult, outAs, tupA, evNilCheck, aMove, ↓clash_free, ↓kOpD_all, opds, evOp, asOper, one, two, evCallee, evAssign, aNew, evSlice, evField, evExtract, evFunc, Option.getD_none, Option.isNone_none, Option.isNone_some, Option.isSome_none, Option.isSome_some, pureOp, isCall, readOp, List.range', back, putBack, fuelR, closed, aStore, thawCells, reach_nil, reach_cons, place, pack, mapO, Nat.reduceEqDiff, Nat.reduceLT, beq_self_eq_true, Nat.succ_ne_self, Nat.zero_ne_one, Nat.one_ne_zero, List.length_append, false_or, or_false, or_true, true_or, maxNeed, i64_id, ↓conv_slb_to, ↓conv_slb_from, ↓conv_sls_to, ↓conv_sls_from, ↓conv_sls_both, hs, ↓kd, ↓kc_i_SwapWord, ↓kc_s_SwapWord, ↓kc_i_WordValid, hsw, ho, evBin_eqlS, evBin_neqS]
      | true =>
        obtain ⟨n, rfl⟩ : ∃ m, n = m + 1 := ⟨n - 1, by omega⟩
        rw [fn_FnSwapWord]
        simp only [S_FnSwapWord, Try.f4, slimF, slimL, lpOf, codeOf, Option.getD_some, slim, loops, List.length_nil, Nat.add_zero, Nat.zero_add, slimO, slimG, List.map_cons, List.map_nil, List.getElem?_cons_zero, List.getElem?_cons_succ, Option.bind_some, Bool.false_eq_true, if_false, if_true, List.length_cons, List.replicate, List.cons_append, List.nil_append, List.append_nil, Nat.reduceAdd, Nat.reduceSub, List.getD_cons_zero, List.getD_cons_succ]
        simp -implicitDefEqProofs (maxSteps := 250000) (disch := first | assumption | (refine Shut.mk ?_; kernel_rfl) | omega | (simp only [List.length_append, List.length_cons, List.length_nil, List.length_set, List.length_replicate, List.length_map, List.length_take, List.length_drop] <;> omega) | (fail)) only [↓WD, ↓kAsg, thawAt, ↓kRet, ↓reduceIte, box_eq, evPick, aUn_not, evBin_add, evBin_sub, evBin_mul, evBin_and, evBin_or, evBin_xor, evBin_andNot, evBin_quo, evBin_rem, evBin_shl, evBin_shr, evBin_lss, evBin_leq, evBin_gtr, evBin_geq, evBin_eql, evBin_neq, ne_eq, not_true_eq_false, if_false, if_true, aPut, List.getD_nil, List.getD_cons_zero, List.getD_cons_succ, List.set_cons_zero, List.set_cons_succ, leavesBody, outA, outS, idsA, idsL, mapA, gc, mapAs, maskB, isUndef, tidy, Bool.not_true, Bool.not_false, Bool.true_eq_false, Bool.false_eq_true, decide_eq_true_eq, decide_eq_false_iff_not, Option.map_some, Option.bind_some, List.append_nil, List.nil_append, List.map_nil, Int.reduceLT, Int.reduceLE, Int.reduceEq, Int.reduceNe, Int.reduceNeg, Int.reduceAdd, Int.reduceSub, Int.reduceMul, Int.reduceToNat, Nat.reduceAdd, Nat.reduceSub, decide_true, decide_false, Bool.not_eq_false', Bool.not_eq_true', aBuiltin, aAppend, sliceCells, aBuildSlice, aIndexAddr, aLoad, runOf, ofCells, TY, LB, aLen, withInt, ite_some, Nat.mul_one, Nat.one_mul, Nat.zero_add, Nat.add_zero, List.getElem?_cons_zero, List.getElem?_cons_succ, List.length_cons, List.length_nil, List.drop_zero, fillA, frzL, listWith, frz, frz0, deep, cellsA, setRun, okCell, List.all_cons, List.all_nil, Bool.and_self, Bool.and_true, Bool.true_and, List.map_cons, List.zip_cons_cons, List.zip_nil_left, List.replicate, List.flatten_cons, List.flatten_nil, List.take_zero, List.take_nil, List.drop_nil, List.cons_append, Bool.or_self, Bool.or_false, Bool.false_or, Nat.not_lt_zero, notJunk, and_self, and_true, true_and, Bool.or_true, Bool.true_or, Option.map_none, List.drop_succ_cons, Nat.reduceMul, Nat.reduceLeDiff, List.take_succ_cons, Nat.reducePow, Nat.lt_irrefl, List.head?_cons, Option.any_some, List.contains_cons, List.contains_nil, Nat.reduceBEq, keepOrd_zero, keepOrd_eq, boxIds, rng0, rng1, rng2, rng3, kFin_eq, aResults, aResult, outAs, tupA, evNilCheck, aMove, ↓clash_free, ↓kOpD_all, opds, evOp, asOper, one, two, evCallee, evAssign, aNew, evSlice, evField, evExtract, evFunc, Option.getD_none, Option.isNone_none, Option.isNone_some, Option.isSome_none, Option.isSome_some, pureOp, isCall, readOp, List.range', back, putBack, fuelR, closed, aStore, thawCells, reach_nil, reach_cons, place, pack, mapO, Nat.reduceEqDiff, Nat.reduceLT, beq_self_eq_true, Nat.succ_ne_self, Nat.zero_ne_one, Nat.one_ne_zero, List.length_append, false_or, or_false, or_true, true_or, maxNeed, i64_id, ↓conv_slb_to, ↓conv_slb_from, ↓conv_sls_to, ↓conv_sls_from, ↓conv_sls_both, hs, ↓kd, ↓kc_i_SwapWord, ↓kc_s_SwapWord, ↓kc_i_WordValid, hsw, ho, evBin_eqlS, evBin_neqS]
    | true =>
      simp only [Bool.and_eq_true] at hg
      obtain ⟨⟨ho, hx⟩, hy⟩ := hg
      have e1 := swapWord_twice ho hx hy
      have e2 := swapWord_len ho hx hy
      have e3 := swapWord_comm (w := w) (x := x) (y := y)
      have e4 := swapWord_same ho hx
      cases hz : (swapWord w x y == []) with
      | true =>
        obtain ⟨n, rfl⟩ : ∃ m, n = m + 1 := ⟨n - 1, by omega⟩
        rw [fn_FnSwapWord]
        simp only [S_FnSwapWord, Try.f4, slimF, slimL, lpOf, codeOf, Option.getD_some, slim, loops, List.length_nil, Nat.add_zero, Nat.zero_add, slimO, slimG, List.map_cons, List.map_nil, List.getElem?_cons_zero, List.getElem?_cons_succ, Option.bind_some, Bool.false_eq_true, if_false, if_true, List.length_cons, List.replicate, List.cons_append, List.nil_append, List.append_nil, Nat.reduceAdd, Nat.reduceSub, List.getD_cons_zero, List.getD_cons_succ]
        simp -implicitDefEqProofs (maxSteps := 250000) (disch := first | assumption | (refine Shut.mk ?_; kernel_rfl) | omega | (simp only [List.length_append, List.length_cons, List.length_nil, List.length_set, List.length_replicate, List.length_map, List.length_take, List.length_drop] <;> omega) | (fail)) only [↓WD, ↓kAsg, thawAt, ↓kRet, ↓reduceIte, box_eq, evPick, aUn_not, evBin_add, evBin_sub, evBin_mul, evBin_and, evBin_or, evBin_xor, evBin_andNot, evBin_quo, evBin_rem, evBin_shl, evBin_shr, evBin_lss, evBin_leq, evBin_gtr, evBin_geq, evBin_eql, evBin_neq, ne_eq, not_true_eq_false, if_false, if_true, aPut, List.getD_nil, List.getD_cons_zero, List.getD_cons_succ, List.set_cons_zero, List.set_cons_succ, leavesBody, outA, outS, idsA, idsL, mapA, gc, mapAs, maskB, isUndef, tidy, Bool.not_true, Bool.not_false, Bool.true_eq_false, Bool.false_eq_true, decide_eq_true_eq, decide_eq_false_iff_not, Option.map_some, Option.bind_some, List.append_nil, List.nil_append, List.map_nil, Int.reduceLT, Int.reduceLE, Int.reduceEq, Int.reduceNe, Int.reduceNeg, Int.reduceAdd, Int.reduceSub, Int.reduceMul, Int.reduceToNat, Nat.reduceAdd, Nat.reduceSub, decide_true, decide_false, Bool.not_eq_false', Bool.not_eq_true', aBuiltin, aAppend, sliceCells, aBuildSlice, aIndexAddr, aLoad, runOf, ofCells, TY, LB, aLen, withInt, ite_some, Nat.mul_one, Nat.one_mul, Nat.zero_add, Nat.add_zero, List.getElem?_cons_zero, List.getElem?_cons_succ, List.length_cons, List.length_nil, List.drop_zero, fillA, frzL, listWith, frz, frz0, deep, cellsA, setRun, okCell, List.all_cons, List.all_nil, Bool.and_self, Bool.and_true, Bool.true_and, List.map_cons, List.zip_cons_cons, List.zip_nil_left, List.replicate, List.flatten_cons, List.flatten_nil, List.take_zero, List.take_nil, List.drop_nil, List.cons_append, Bool.or_self, Bool.or_false, Bool.false_or, Nat.not_lt_zero, notJunk, and_self, and_true, true_and, Bool.or_true, Bool.true_or, Option.map_none, List.drop_succ_cons, Nat.reduceMul, Nat.reduceLeDiff, List.take_succ_cons, Nat.reducePow, Nat.lt_irrefl, List.head?_cons, Option.any_some, List.contains_cons, List.contains_nil, Nat.reduceBEq, keepOrd_zero, keepOrd_eq, boxIds, rng0, rng1, rng2, rng3, kFin_eq, aResults, aResult, outAs, tupA, evNilCheck, aMove, ↓clash_free, ↓kOpD_all, opds, evOp, asOper, one, two, evCallee, evAssign, aNew, evSlice, evField, evExtract, evFunc, Option.getD_none, Option.isNone_none, Option.isNone_some, Option.isSome_none, Option.isSome_some, pureOp, isCall, readOp, List.range', back, putBack, fuelR, closed, aStore, thawCells, reach_nil, reach_cons, place, pack, mapO, Nat.reduceEqDiff, Nat.reduceLT, beq_self_eq_true, Nat.succ_ne_self, Nat.zero_ne_one, Nat.one_ne_zero, List.length_append, false_or, or_false, or_true, true_or, maxNeed, i64_id, ↓conv_slb_to, ↓conv_slb_from, ↓conv_sls_to, ↓conv_sls_from, ↓conv_sls_both, hs, ↓kd, ↓kc_i_SwapWord, ↓kc_s_SwapWord, ↓kc_i_WordValid, ho, hz, evBin_eqlS, evBin_neqS]
      | false =>
        obtain ⟨n, rfl⟩ : ∃ m, n = m + 1 := ⟨n - 1, by omega⟩
        rw [fn_FnSwapWord]
        simp only [S_FnSwapWord, Try.f4, slimF, slimL, lpOf, codeOf, Option.getD_some, slim, loops, List.length_nil, Nat.add_zero, Nat.zero_add, slimO, slimG, List.map_cons, List.map_nil, List.getElem?_cons_zero, List.getElem?_cons_succ, Option.bind_some, Bool.false_eq_true, if_false, if_true, List.length_cons, List.replicate, List.cons_append, List.nil_append, List.append_nil, Nat.reduceAdd, Nat.reduceSub, List.getD_cons_zero, List.getD_cons_succ]
        simp -implicitDefEqProofs (maxSteps := 250000) (disch := first | assumption | (refine Shut.mk ?_; kernel_rfl) | omega | (simp only [List.length_append, List.length_cons, List.length_nil, List.length_set, List.length_replicate, List.length_map, List.length_take, List.length_drop] <;> omega) | (fail)) only [↓WD, ↓kAsg, thawAt, ↓kRet, ↓reduceIte, box_eq, evPick, aUn_not, evBin_add, evBin_sub, evBin_mul, evBin_and, evBin_or, evBin_xor, evBin_andNot, evBin_quo, evBin_rem, evBin_shl, evBin_shr, evBin_lss, evBin_leq, evBin_gtr, evBin_geq, evBin_eql, evBin_neq, ne_eq, not_true_eq_false, if_false, if_true, aPut, List.getD_nil, List.getD_cons_zero, List.getD_cons_succ, List.set_cons_zero, List.set_cons_succ, leavesBody, outA, outS, idsA, idsL, mapA, gc, mapAs, maskB, isUndef, tidy, Bool.not_true, Bool.not_false, Bool.true_eq_false, Bool.false_eq_true, decide_eq_true_eq, decide_eq_false_iff_not, Option.map_some, Option.bind_some, List.append_nil, List.nil_append, List.map_nil, Int.reduceLT, Int.reduceLE, Int.reduceEq, Int.reduceNe, Int.reduceNeg, Int.reduceAdd, Int.reduceSub, Int.reduceMul, Int.reduceToNat, Nat.reduceAdd, Nat.reduceSub, decide_true, decide_false, Bool.not_eq_false', Bool.not_eq_true', aBuiltin, aAppend, sliceCells, aBuildSlice, aIndexAddr, aLoad, runOf, ofCells, TY, LB, aLen, withInt, ite_some, Nat.mul_one, Nat.one_mul, Nat.zero_add, Nat.add_zero, List.getElem?_cons_zero, List.getElem?_cons_succ, List.length_cons, List.length_nil, List.drop_zero, fillA, frzL, listWith, frz, frz0, deep, cellsA, setRun, okCell, List.all_cons, List.all_nil, Bool.and_self, Bool.and_true, Bool.true_and, List.map_cons, List.zip_cons_cons, List.zip_nil_left, List.replicate, List.flatten_cons, List.flatten_nil, List.take_zero, List.take_nil, List.drop_nil, List.cons_append, Bool.or_self, Bool.or_false, Bool.false_or, Nat.not_lt_zero, notJunk, and_self, and_true, true_and, Bool.or_true, Bool.true_or, Option.map_none, List.drop_succ_cons, Nat.reduceMul, Nat.reduceLeDiff, List.take_succ_cons, Nat.reducePow, Nat.lt_irrefl, List.head?_cons, Option.any_some, List.contains_cons, List.contains_nil, Nat.reduceBEq, keepOrd_zero, keepOrd_eq, boxIds, rng0, rng1, rng2, rng3, kFin_eq, aResults, aResult, outAs, tupA, evNilCheck, aMove, ↓clash_free, ↓kOpD_all, opds, evOp, asOper, one, two, evCallee, evAssign, aNew, evSlice, evField, evExtract, evFunc, Option.getD_none, Option.isNone_none, Option.isNone_some, Option.isSome_none, Option.isSome_some, pureOp, isCall, readOp, List.range', back, putBack, fuelR, closed, aStore, thawCells, reach_nil, reach_cons, place, pack, mapO, Nat.reduceEqDiff, Nat.reduceLT, beq_self_eq_true, Nat.succ_ne_self, Nat.zero_ne_one, Nat.one_ne_zero, List.length_append, false_or, or_false, or_true, true_or, maxNeed, i64_id, ↓conv_slb_to, ↓conv_slb_from, ↓conv_sls_to, ↓conv_sls_from, ↓conv_sls_both, hs, ↓kd, ↓kc_i_SwapWord, ↓kc_s_SwapWord, ↓kc_i_WordValid, ho, hz, e1, e2, e3, e4, u_string, evBin_eqlS, evBin_neqS]

end Ev
end Go.Proofs.Ytidobgmklcbcpaa
