/-
  Alphabets as sets of letters; alphabets of words, restrictions.
-/
import Derived.Test.YtidobgmklcbcpaaSwapW
set_option linter.unusedSimpArgs false
set_option linter.unusedVariables false
set_option maxRecDepth 8000
set_option maxHeartbeats 4000000
set_option pp.maxSteps 6000
namespace Go.Proofs.Ytidobgmklcbcpaa
namespace Ev

theorem bits_or : ∀ (a : Fin 64) (l m : Fin 6), bitAt (iOr .i64 (a.val : Int) (bitI (l.val : Int))) (m.val : Int) = (bitAt (a.val : Int) (m.val : Int) || decide (m.val = l.val)) := by decide +kernel
theorem or_range : ∀ (a : Fin 64) (l : Fin 6), 0 ≤ iOr .i64 (a.val : Int) (bitI (l.val : Int)) ∧ iOr .i64 (a.val : Int) (bitI (l.val : Int)) ≤ 63 := by decide +kernel
theorem bits_ext : ∀ (a b : Fin 64), (∀ m : Fin 6, bitAt (a.val : Int) (m.val : Int) = bitAt (b.val : Int) (m.val : Int)) → a.val = b.val := by decide +kernel

theorem bit_or {a l m : Int} (ha : isAlpha a = true) (hl : isLet l = true) (hm : isLet m = true) : bitAt (iOr .i64 a (bitI l)) m = (bitAt a m || decide (m = l)) := by
  unfold isAlpha at ha; simp only [decide_eq_true_eq] at ha
  have hl := isLet_iff.1 hl
  have hm := isLet_iff.1 hm
  have h := bits_or ⟨a.toNat, by omega⟩ ⟨l.toNat, by omega⟩ ⟨m.toNat, by omega⟩
  simp only [Int.toNat_of_nonneg ha.1, Int.toNat_of_nonneg hl.1, Int.toNat_of_nonneg hm.1] at h
  rw [h]
  congr 1
  have : (m.toNat = l.toNat) ↔ m = l := by omega
  simp only [this]

theorem or_alpha {a l : Int} (ha : isAlpha a = true) (hl : isLet l = true) : isAlpha (iOr .i64 a (bitI l)) = true := by
  unfold isAlpha at ha ⊢; simp only [decide_eq_true_eq] at ha ⊢
  have hl := isLet_iff.1 hl
  have h := or_range ⟨a.toNat, by omega⟩ ⟨l.toNat, by omega⟩
  simpa only [Int.toNat_of_nonneg ha.1, Int.toNat_of_nonneg hl.1] using h

theorem alpha_ext {a b : Int} (ha : isAlpha a = true) (hb : isAlpha b = true) (h : ∀ m : Int, isLet m = true → bitAt a m = bitAt b m) : a = b := by
  unfold isAlpha at ha hb; simp only [decide_eq_true_eq] at ha hb
  have := bits_ext ⟨a.toNat, by omega⟩ ⟨b.toNat, by omega⟩ (fun m => by
    simp only [Int.toNat_of_nonneg ha.1, Int.toNat_of_nonneg hb.1]
    exact h m.val (isLet_iff.2 (by have := m.isLt; omega)))
  simp only at this
  omega

/-- The set of some letters. -/
def orAll (ls : List Int) : Int := ls.foldl (fun o l => iOr .i64 o (bitI l)) 0

theorem orAll_from {ls : List Int} : ∀ {a : Int}, isAlpha a = true → (∀ l ∈ ls, isLet l = true) → isAlpha (ls.foldl (fun o l => iOr .i64 o (bitI l)) a) = true ∧ ∀ m, isLet m = true → bitAt (ls.foldl (fun o l => iOr .i64 o (bitI l)) a) m = (bitAt a m || ls.any (fun l => decide (m = l))) := by
  induction ls with
  | nil => intro a ha _; exact ⟨ha, fun m _ => by simp⟩
  | cons l ls ih =>
    intro a ha hl
    have h1 := or_alpha ha (hl l (by simp))
    obtain ⟨h2, h3⟩ := ih h1 (fun x hx => hl x (by simp [hx]))
    refine ⟨h2, fun m hm => ?_⟩
    rw [List.foldl_cons, h3 m hm, bit_or ha (hl l (by simp)) hm, List.any_cons, Bool.or_assoc]

theorem bit_zero : ∀ m : Int, isLet m = true → bitAt 0 m = false := by
  intro m _; unfold bitAt; simp

theorem orAll_alpha {ls : List Int} (h : ∀ l ∈ ls, isLet l = true) : isAlpha (orAll ls) = true := (orAll_from (a := 0) rfl h).1
theorem orAll_bit {ls : List Int} (h : ∀ l ∈ ls, isLet l = true) {m : Int} (hm : isLet m = true) : bitAt (orAll ls) m = ls.any (fun l => decide (m = l)) := by
  have := (orAll_from (a := 0) rfl h).2 m hm
  rw [bit_zero m hm, Bool.false_or] at this
  exact this

theorem let_in {m : Int} (h : isLet m = true) : m ∈ [0, 1, 2, 3, 4, (5 : Int)] := by
  have := isLet_iff.1 h
  simp; omega

theorem in_letters {a m : Int} : m ∈ letters a ↔ isLet m = true ∧ bitAt a m = true := by
  unfold letters
  rw [List.mem_filter]
  constructor
  · rintro ⟨h1, h2⟩
    refine ⟨isLet_iff.2 ?_, h2⟩
    simp at h1; omega
  · rintro ⟨h1, h2⟩
    exact ⟨let_in h1, h2⟩

theorem swapI_isLet {l x y : Int} (hl : isLet l = true) (hx : isLet x = true) (hy : isLet y = true) : isLet (swapI l x y) = true := by
  have h1 := isLet_iff.1 hl
  have h2 := isLet_iff.1 hx
  have h3 := isLet_iff.1 hy
  exact isLet_iff.2 ⟨swapI_let h1.1 h2.1 h3.1, swapI_le h1.2 h2.2 h3.2⟩

theorem swapI_twice {l x y : Int} : swapI (swapI l x y) x y = l := by
  unfold swapI
  by_cases h1 : l = x
  · by_cases h2 : y = x <;> simp [h1, h2]
  · by_cases h2 : l = y
    · simp [h1, h2]
    · simp [h1, h2]

theorem swapAlpha_orAll {a x y : Int} (ha : isAlpha a = true) (hx : isLet x = true) (hy : isLet y = true) : swapAlpha a x y = orAll ((letters a).map fun l => swapI l x y) := by
  unfold swapAlpha orAll
  simp only [ha, hx, hy, Bool.and_self, if_true, List.foldl_map]
  rfl

theorem swaps_let {a x y : Int} (hx : isLet x = true) (hy : isLet y = true) : ∀ l ∈ (letters a).map fun l => swapI l x y, isLet l = true := by
  intro l hl
  obtain ⟨k, hk, rfl⟩ := List.mem_map.1 hl
  exact swapI_isLet (in_letters.1 hk).1 hx hy

theorem swapAlpha_alpha {a x y : Int} (ha : isAlpha a = true) (hx : isLet x = true) (hy : isLet y = true) : isAlpha (swapAlpha a x y) = true := by
  rw [swapAlpha_orAll ha hx hy]; exact orAll_alpha (swaps_let hx hy)

/-- A letter is in the exchanged alphabet if its exchanged letter is in the alphabet. -/
theorem swapAlpha_bit {a x y m : Int} (ha : isAlpha a = true) (hx : isLet x = true) (hy : isLet y = true) (hm : isLet m = true) : bitAt (swapAlpha a x y) m = bitAt a (swapI m x y) := by
  rw [swapAlpha_orAll ha hx hy, orAll_bit (swaps_let hx hy) hm, Bool.eq_iff_iff, List.any_eq_true]
  constructor
  · rintro ⟨l, hl, hd⟩
    obtain ⟨k, hk, rfl⟩ := List.mem_map.1 hl
    simp only [decide_eq_true_eq] at hd
    rw [hd, swapI_twice]
    exact (in_letters.1 hk).2
  · intro hb
    exact ⟨m, List.mem_map.2 ⟨swapI m x y, in_letters.2 ⟨swapI_isLet hm hx hy, hb⟩, swapI_twice⟩, by simp⟩

theorem swapAlpha_twice {a x y : Int} (ha : isAlpha a = true) (hx : isLet x = true) (hy : isLet y = true) : swapAlpha (swapAlpha a x y) x y = a := by
  have h1 := swapAlpha_alpha ha hx hy
  refine alpha_ext (swapAlpha_alpha h1 hx hy) ha fun m hm => ?_
  rw [swapAlpha_bit h1 hx hy hm, swapAlpha_bit ha hx hy (swapI_isLet hm hx hy), swapI_twice]

/-! ### the alphabet of a word -/

def alphaOf (s : List UInt8) : Int := orAll (s.map ltr)

theorem foldl_go {β α : Type} {f : β → α → β} {l : List α} {i : Nat} {d : α} {o : β} (h : i < l.length) : (l.drop i).foldl f o = (l.drop (i + 1)).foldl f (f o (l.getD i d)) := by
  rw [List.drop_eq_getElem_cons h, List.getD_eq_getElem?_getD, List.getElem?_eq_getElem h]
  rfl

theorem loop_i_AlphabetOf {R : Type} {L n : Nat} (hn : 1 ≤ n) {s : List UInt8} (hs : s.length ≤ 50000) (ha : s.all okB = true) {k : Exit → List A → H → Option R} : ∀ (i o : Int) (m : Nat) (h0 : 0 ≤ i) (hi : i ≤ s.length) (hm : (s.length : Int) - i < m),
    kLoop env (evCall env L n) L 0 [] (true :: false :: true :: true :: true :: false :: false :: false :: false :: false :: true :: true :: false :: false :: false :: false :: false :: false :: false :: false :: false :: false :: []) (lp_i_AlphabetOf 0) (false :: true :: false :: false :: false :: true :: true :: true :: true :: true :: false :: false :: true :: true :: true :: true :: true :: true :: true :: true :: true :: true :: []) m (.d (.str s) :: .junk :: .d (.int .i64 0) :: .d (.bool false) :: .d (.int .i64 o) :: .junk :: .junk :: .junk :: .junk :: .junk :: .d (.int .i64 (s.length)) :: .d (.int .i64 i) :: .junk :: .junk :: .junk :: .junk :: .junk :: .junk :: .junk :: .junk :: .junk :: .junk :: []) [] k
    = k (.exit 0) (.d (.str s) :: .junk :: .d (.int .i64 0) :: .d (.bool false) :: .d (.int .i64 (((s.drop i.toNat).foldl (fun o b => iOr .i64 o (bitI (ltr b))) o))) :: .junk :: .junk :: .junk :: .junk :: .junk :: .d (.int .i64 (s.length)) :: .d (.int .i64 (s.length)) :: .junk :: .junk :: .junk :: .junk :: .junk :: .junk :: .junk :: .junk :: .junk :: .junk :: []) [] := by
  intro i o m h0 hi hm
  obtain ⟨j, hj⟩ : ∃ j : Nat, (j : Int) = (s.length : Int) - i := ⟨((s.length : Int) - i).toNat, by omega⟩
  induction j generalizing i m o with
  | zero =>
    obtain ⟨m, rfl⟩ : ∃ q, m = q + 1 := ⟨m - 1, by omega⟩
    obtain rfl : i = s.length := by omega
    rw [step_i_AlphabetOf_0]
    simp only [S_i_AlphabetOf_0, Try.f18, slimF, slimL, lpOf, codeOf, Option.getD_some, slim, loops, List.length_nil, Nat.add_zero, Nat.zero_add, slimO, slimG, List.map_cons, List.map_nil, List.getElem?_cons_zero, List.getElem?_cons_succ, Option.bind_some, Bool.false_eq_true, if_false, if_true, List.length_cons, List.replicate, List.cons_append, List.nil_append, List.append_nil, Nat.reduceAdd, Nat.reduceSub, List.getD_cons_zero, List.getD_cons_succ]
    simp -implicitDefEqProofs (maxSteps := 250000) (disch := first | assumption | (refine Shut.mk ?_; kernel_rfl) | omega | (simp only [List.length_append, List.length_cons, List.length_nil, List.length_set, List.length_replicate, List.length_map, List.length_take, List.length_drop] <;> omega) | (fail)) only [↓WD, ↓kAsg, thawAt, ↓kRet, ↓reduceIte, box_eq, evPick, aUn_not, evBin_add, evBin_sub, evBin_mul, evBin_and, evBin_or, evBin_xor, evBin_andNot, evBin_quo, evBin_rem, evBin_shl, evBin_shr, evBin_lss, evBin_leq, evBin_gtr, evBin_geq, evBin_eql, evBin_neq, ne_eq, not_true_eq_false, if_false, if_true, aPut, List.getD_nil, List.getD_cons_zero, List.getD_cons_succ, List.set_cons_zero, List.set_cons_succ, leavesBody, outA, outS, idsA, idsL, mapA, gc, mapAs, maskB, isUndef, tidy, Bool.not_true, Bool.not_false, Bool.true_eq_false, Bool.false_eq_true, decide_eq_true_eq, decide_eq_false_iff_not, Option.map_some, Option.bind_some, List.append_nil, List.nil_append, List.map_nil, Int.reduceLT, Int.reduceLE, Int.reduceEq, Int.reduceNe, Int.reduceNeg, Int.reduceAdd, Int.reduceSub, Int.reduceMul, Int.reduceToNat, Nat.reduceAdd, Nat.reduceSub, decide_true, decide_false, Bool.not_eq_false', Bool.not_eq_true', aBuiltin, aAppend, sliceCells, aBuildSlice, aIndexAddr, aLoad, runOf, ofCells, TY, LB, aLen, withInt, ite_some, Nat.mul_one, Nat.one_mul, Nat.zero_add, Nat.add_zero, List.getElem?_cons_zero, List.getElem?_cons_succ, List.length_cons, List.length_nil, List.drop_zero, fillA, frzL, listWith, frz, frz0, deep, cellsA, setRun, okCell, List.all_cons, List.all_nil, Bool.and_self, Bool.and_true, Bool.true_and, List.map_cons, List.zip_cons_cons, List.zip_nil_left, List.replicate, List.flatten_cons, List.flatten_nil, List.take_zero, List.take_nil, List.drop_nil, List.cons_append, Bool.or_self, Bool.or_false, Bool.false_or, Nat.not_lt_zero, notJunk, and_self, and_true, true_and, Bool.or_true, Bool.true_or, Option.map_none, List.drop_succ_cons, Nat.reduceMul, Nat.reduceLeDiff, List.take_succ_cons, Nat.reducePow, Nat.lt_irrefl, List.head?_cons, Option.any_some, List.contains_cons, List.contains_nil, Nat.reduceBEq, keepOrd_zero, keepOrd_eq, boxIds, rng0, rng1, rng2, rng3, kFin_eq, aResults, aResult, outAs, tupA, evNilCheck, aMove, ↓clash_free, ↓kOpD_all, opds, evOp, asOper, one, two, evCallee, evAssign, aNew, evSlice, evField, evExtract, evFunc, Option.getD_none, Option.isNone_none, Option.isNone_some, Option.isSome_none, Option.isSome_some, pureOp, isCall, readOp, List.range', back, putBack, fuelR, closed, aStore, thawCells, reach_nil, reach_cons, place, pack, mapO, Nat.reduceEqDiff, Nat.reduceLT, beq_self_eq_true, Nat.succ_ne_self, Nat.zero_ne_one, Nat.one_ne_zero, List.length_append, false_or, or_false, or_true, true_or, maxNeed, i64_id, ↓conv_slb_to, ↓conv_slb_from, ↓conv_sls_to, ↓conv_sls_from, ↓conv_sls_both, u_string, Int.lt_irrefl]
    simp only [List.drop_length, List.foldl_nil]
  | succ j ih =>
    obtain ⟨m, rfl⟩ : ∃ q, m = q + 1 := ⟨m - 1, by omega⟩
    have hc : i < s.length := by omega
    have hk : i.toNat < s.length := by omega
    have e1 : (i + 1).toNat = i.toNat + 1 := by omega
    have hb := all_at (d := 0) ha hk
    have hsl := isLet_iff.1 hb
    have hlet : isLet (ltr (s.getD i.toNat 0)) = true := hb
    have hbit : IntKind.i64.wrap (1 * 2 ^ (min (ltr (s.getD i.toNat 0)).toNat 64)) = bitI (ltr (s.getD i.toNat 0)) := rfl
    rw [step_i_AlphabetOf_0]
    simp only [S_i_AlphabetOf_0, Try.f18, slimF, slimL, lpOf, codeOf, Option.getD_some, slim, loops, List.length_nil, Nat.add_zero, Nat.zero_add, slimO, slimG, List.map_cons, List.map_nil, List.getElem?_cons_zero, List.getElem?_cons_succ, Option.bind_some, Bool.false_eq_true, if_false, if_true, List.length_cons, List.replicate, List.cons_append, List.nil_append, List.append_nil, Nat.reduceAdd, Nat.reduceSub, List.getD_cons_zero, List.getD_cons_succ]
    simp -implicitDefEqProofs (maxSteps := 250000) (disch := first | assumption | (refine Shut.mk ?_; kernel_rfl) | omega | (simp only [List.length_append, List.length_cons, List.length_nil, List.length_set, List.length_replicate, List.length_map, List.length_take, List.length_drop] <;> omega) | (fail)) only [↓WD, ↓kAsg, thawAt, ↓kRet, ↓reduceIte, box_eq, evPick, aUn_not, evBin_add, evBin_sub, evBin_mul, evBin_and, evBin_or, evBin_xor, evBin_andNot, evBin_quo, evBin_rem, evBin_shl, evBin_shr, evBin_lss, evBin_leq, evBin_gtr, evBin_geq, evBin_eql, evBin_neq, ne_eq, not_true_eq_false, if_false, if_true, aPut, List.getD_nil, List.getD_cons_zero, List.getD_cons_succ, List.set_cons_zero, List.set_cons_succ, leavesBody, outA, outS, idsA, idsL, mapA, gc, mapAs, maskB, isUndef, tidy, Bool.not_true, Bool.not_false, Bool.true_eq_false, Bool.false_eq_true, decide_eq_true_eq, decide_eq_false_iff_not, Option.map_some, Option.bind_some, List.append_nil, List.nil_append, List.map_nil, Int.reduceLT, Int.reduceLE, Int.reduceEq, Int.reduceNe, Int.reduceNeg, Int.reduceAdd, Int.reduceSub, Int.reduceMul, Int.reduceToNat, Nat.reduceAdd, Nat.reduceSub, decide_true, decide_false, Bool.not_eq_false', Bool.not_eq_true', aBuiltin, aAppend, sliceCells, aBuildSlice, aIndexAddr, aLoad, runOf, ofCells, TY, LB, aLen, withInt, ite_some, Nat.mul_one, Nat.one_mul, Nat.zero_add, Nat.add_zero, List.getElem?_cons_zero, List.getElem?_cons_succ, List.length_cons, List.length_nil, List.drop_zero, fillA, frzL, listWith, frz, frz0, deep, cellsA, setRun, okCell, List.all_cons, List.all_nil, Bool.and_self, Bool.and_true, Bool.true_and, List.map_cons, List.zip_cons_cons, List.zip_nil_left, List.replicate, List.flatten_cons, List.flatten_nil, List.take_zero, List.take_nil, List.drop_nil, List.cons_append, Bool.or_self, Bool.or_false, Bool.false_or, Nat.not_lt_zero, notJunk, and_self, and_true, true_and, Bool.or_true, Bool.true_or, Option.map_none, List.drop_succ_cons, Nat.reduceMul, Nat.reduceLeDiff, List.take_succ_cons, Nat.reducePow, Nat.lt_irrefl, List.head?_cons, Option.any_some, List.contains_cons, List.contains_nil, Nat.reduceBEq, keepOrd_zero, keepOrd_eq, boxIds, rng0, rng1, rng2, rng3, kFin_eq, aResults, aResult, outAs, tupA, evNilCheck, aMove, ↓clash_free, ↓kOpD_all, opds, evOp, asOper, one, two, evCallee, evAssign, aNew, evSlice, evField, evExtract, evFunc, Option.getD_none, Option.isNone_none, Option.isNone_some, Option.isSome_none, Option.isSome_some, pureOp, isCall, readOp, List.range', back, putBack, fuelR, closed, aStore, thawCells, reach_nil, reach_cons, place, pack, mapO, Nat.reduceEqDiff, Nat.reduceLT, beq_self_eq_true, Nat.succ_ne_self, Nat.zero_ne_one, Nat.one_ne_zero, List.length_append, false_or, or_false, or_true, true_or, maxNeed, i64_id, ↓conv_slb_to, ↓conv_slb_from, ↓conv_sls_to, ↓conv_sls_from, ↓conv_sls_both, u_string, hc, ↓kc_i_letterAt, hlet, bits64, ↓ih]
    rw [foldl_go hk (d := 0), e1]
    rfl

theorem ev_i_AlphabetOf {L n : Nat} (hn : 4 ≤ n) (s : List UInt8) (hL : 2 ^ 60 ≤ L) : evCall env L n 18 [.d (.str s)] [] = some (.tup [.d (.int .i64 (if wordOK s then alphaOf s else 0)), .d (.bool (wordOK s))], []) := by
  cases hw : wordOK s with
  | false => 
    obtain ⟨n, rfl⟩ : ∃ m, n = m + 1 := ⟨n - 1, by omega⟩
    rw [fn_i_AlphabetOf]
    simp only [S_i_AlphabetOf, Try.f18, slimF, slimL, lpOf, codeOf, Option.getD_some, slim, loops, List.length_nil, Nat.add_zero, Nat.zero_add, slimO, slimG, List.map_cons, List.map_nil, List.getElem?_cons_zero, List.getElem?_cons_succ, Option.bind_some, Bool.false_eq_true, if_false, if_true, List.length_cons, List.replicate, List.cons_append, List.nil_append, List.append_nil, Nat.reduceAdd, Nat.reduceSub, List.getD_cons_zero, List.getD_cons_succ]
    simp -implicitDefEqProofs (maxSteps := 250000) (disch := first | assumption | (refine Shut.mk ?_; kernel_rfl) | omega | (simp only [List.length_append, List.length_cons, List.length_nil, List.length_set, List.length_replicate, List.length_map, List.length_take, List.length_drop] <;> omega) | (fail)) only [↓WD, ↓kAsg, thawAt, ↓kRet, ↓reduceIte, box_eq, evPick, aUn_not, evBin_add, evBin_sub, evBin_mul, evBin_and, evBin_or, evBin_xor, evBin_andNot, evBin_quo, evBin_rem, evBin_shl, evBin_shr, evBin_lss, evBin_leq, evBin_gtr, evBin_geq, evBin_eql, evBin_neq, ne_eq, not_true_eq_false, if_false, if_true, aPut, List.getD_nil, List.getD_cons_zero, List.getD_cons_succ, List.set_cons_zero, List.set_cons_succ, leavesBody, outA, outS, idsA, idsL, mapA, gc, mapAs, maskB, isUndef, tidy, Bool.not_true, Bool.not_false, Bool.true_eq_false, Bool.false_eq_true, decide_eq_true_eq, decide_eq_false_iff_not, Option.map_some, Option.bind_some, List.append_nil, List.nil_append, List.map_nil, Int.reduceLT, Int.reduceLE, Int.reduceEq, Int.reduceNe, Int.reduceNeg, Int.reduceAdd, Int.reduceSub, Int.reduceMul, Int.reduceToNat, Nat.reduceAdd, Nat.reduceSub, decide_true, decide_false, Bool.not_eq_false', Bool.not_eq_true', aBuiltin, aAppend, sliceCells, aBuildSlice, aIndexAddr, aLoad, runOf, ofCells, TY, LB, aLen, withInt, ite_some, Nat.mul_one, Nat.one_mul, Nat.zero_add, Nat.add_zero, List.getElem?_cons_zero, List.getElem?_cons_succ, List.length_cons, List.length_nil, List.drop_zero, fillA, frzL, listWith, frz, frz0, deep, cellsA, setRun, okCell, List.all_cons, List.all_nil, Bool.and_self, Bool.and_true, Bool.true_and, List.map_cons, List.zip_cons_cons, List.zip_nil_left, List.replicate, List.flatten_cons, List.flatten_nil, List.take_zero, List.take_nil, List.drop_nil, List.cons_append, Bool.or_self, Bool.or_false, Bool.false_or, Nat.not_lt_zero, notJunk, and_self, and_true, true_and, Bool.or_true, Bool.true_or, Option.map_none, List.drop_succ_cons, Nat.reduceMul, Nat.reduceLeDiff, List.take_succ_cons, Nat.reducePow, Nat.lt_irrefl, List.head?_cons, Option.any_some, List.contains_cons, List.contains_nil, Nat.reduceBEq, keepOrd_zero, keepOrd_eq, boxIds, rng0, rng1, rng2, rng3, kFin_eq, aResults, aResult, outAs, tupA, evNilCheck, aMove, ↓clash_free, ↓kOpD_all, opds, evOp, asOper, one, two, evCallee, evAssign, aNew, evSlice, evField, evExtract, evFunc, Option.getD_none, Option.isNone_none, Option.isNone_some, Option.isSome_none, Option.isSome_some, pureOp, isCall, readOp, List.range', back, putBack, fuelR, closed, aStore, thawCells, reach_nil, reach_cons, place, pack, mapO, Nat.reduceEqDiff, Nat.reduceLT, beq_self_eq_true, Nat.succ_ne_self, Nat.zero_ne_one, Nat.one_ne_zero, List.length_append, false_or, or_false, or_true, true_or, maxNeed, i64_id, ↓conv_slb_to, ↓conv_slb_from, ↓conv_sls_to, ↓conv_sls_from, ↓conv_sls_both, ↓kc_i_WordValid, hw]
  | true =>
    have hw' := hw
    unfold wordOK at hw'
    simp only [Bool.and_eq_true, decide_eq_true_eq] at hw'
    obtain ⟨hw1, hw2⟩ := hw'
    have e : s.foldl (fun o b => iOr .i64 o (bitI (ltr b))) 0 = alphaOf s := by
      unfold alphaOf orAll; rw [List.foldl_map]
    obtain ⟨n, rfl⟩ : ∃ m, n = m + 1 := ⟨n - 1, by omega⟩
    rw [fn_i_AlphabetOf]
    simp only [S_i_AlphabetOf, Try.f18, slimF, slimL, lpOf, codeOf, Option.getD_some, slim, loops, List.length_nil, Nat.add_zero, Nat.zero_add, slimO, slimG, List.map_cons, List.map_nil, List.getElem?_cons_zero, List.getElem?_cons_succ, Option.bind_some, Bool.false_eq_true, if_false, if_true, List.length_cons, List.replicate, List.cons_append, List.nil_append, List.append_nil, Nat.reduceAdd, Nat.reduceSub, List.getD_cons_zero, List.getD_cons_succ]
    simp -implicitDefEqProofs (maxSteps := 250000) (disch := first | assumption | (refine Shut.mk ?_; kernel_rfl) | omega | (simp only [List.length_append, List.length_cons, List.length_nil, List.length_set, List.length_replicate, List.length_map, List.length_take, List.length_drop] <;> omega) | (fail)) only [↓WD, ↓kAsg, thawAt, ↓kRet, ↓reduceIte, box_eq, evPick, aUn_not, evBin_add, evBin_sub, evBin_mul, evBin_and, evBin_or, evBin_xor, evBin_andNot, evBin_quo, evBin_rem, evBin_shl, evBin_shr, evBin_lss, evBin_leq, evBin_gtr, evBin_geq, evBin_eql, evBin_neq, ne_eq, not_true_eq_false, if_false, if_true, aPut, List.getD_nil, List.getD_cons_zero, List.getD_cons_succ, List.set_cons_zero, List.set_cons_succ, leavesBody, outA, outS, idsA, idsL, mapA, gc, mapAs, maskB, isUndef, tidy, Bool.not_true, Bool.not_false, Bool.true_eq_false, Bool.false_eq_true, decide_eq_true_eq, decide_eq_false_iff_not, Option.map_some, Option.bind_some, List.append_nil, List.nil_append, List.map_nil, Int.reduceLT, Int.reduceLE, Int.reduceEq, Int.reduceNe, Int.reduceNeg, Int.reduceAdd, Int.reduceSub, Int.reduceMul, Int.reduceToNat, Nat.reduceAdd, Nat.reduceSub, decide_true, decide_false, Bool.not_eq_false', Bool.not_eq_true', aBuiltin, aAppend, sliceCells, aBuildSlice, aIndexAddr, aLoad, runOf, ofCells, TY, LB, aLen, withInt, ite_some, Nat.mul_one, Nat.one_mul, Nat.zero_add, Nat.add_zero, List.getElem?_cons_zero, List.getElem?_cons_succ, List.length_cons, List.length_nil, List.drop_zero, fillA, frzL, listWith, frz, frz0, deep, cellsA, setRun, okCell, List.all_cons, List.all_nil, Bool.and_self, Bool.and_true, Bool.true_and, List.map_cons, List.zip_cons_cons, List.zip_nil_left, List.replicate, List.flatten_cons, List.flatten_nil, List.take_zero, List.take_nil, List.drop_nil, List.cons_append, Bool.or_self, Bool.or_false, Bool.false_or, Nat.not_lt_zero, notJunk, and_self, and_true, true_and, Bool.or_true, Bool.true_or, Option.map_none, List.drop_succ_cons, Nat.reduceMul, Nat.reduceLeDiff, List.take_succ_cons, Nat.reducePow, Nat.lt_irrefl, List.head?_cons, Option.any_some, List.contains_cons, List.contains_nil, Nat.reduceBEq, keepOrd_zero, keepOrd_eq, boxIds, rng0, rng1, rng2, rng3, kFin_eq, aResults, aResult, outAs, tupA, evNilCheck, aMove, ↓clash_free, ↓kOpD_all, opds, evOp, asOper, one, two, evCallee, evAssign, aNew, evSlice, evField, evExtract, evFunc, Option.getD_none, Option.isNone_none, Option.isNone_some, Option.isSome_none, Option.isSome_some, pureOp, isCall, readOp, List.range', back, putBack, fuelR, closed, aStore, thawCells, reach_nil, reach_cons, place, pack, mapO, Nat.reduceEqDiff, Nat.reduceLT, beq_self_eq_true, Nat.succ_ne_self, Nat.zero_ne_one, Nat.one_ne_zero, List.length_append, false_or, or_false, or_true, true_or, maxNeed, i64_id, ↓conv_slb_to, ↓conv_slb_from, ↓conv_sls_to, ↓conv_sls_from, ↓conv_sls_both, ↓kc_i_WordValid, hw, u_string, ↓loop_i_AlphabetOf, e]
theorem kc_i_AlphabetOf {R : Type} {L n : Nat} {hq : H} {k : A → H → Option R} (hn : 4 ≤ n) (s : List UInt8) (hL : 2 ^ 60 ≤ L) : kCall env (evCall env L n) hq 18 [.d (.str s)] k = k (.tup [.d (.int .i64 (if wordOK s then alphaOf s else 0)), .d (.bool (wordOK s))]) hq :=
  kCall_still rfl (ev_i_AlphabetOf hn s hL) rfl (.inl rfl)


/-! ### restrictions -/

theorem filter_go {α : Type} {p : α → Bool} {l : List α} {i : Nat} {d : α} (h : i < l.length) : (l.drop i).filter p = (if p (l.getD i d) then l.getD i d :: (l.drop (i + 1)).filter p else (l.drop (i + 1)).filter p) := by
  rw [List.drop_eq_getElem_cons h, List.getD_eq_getElem?_getD, List.getElem?_eq_getElem h, List.filter_cons]
  rfl

theorem ex_loop_i_restrict {s : List UInt8} {a : Int} (hs : s.length ≤ 60000) : ∀ (j : Nat) (i : Int) (o : List UInt8) (g len : Nat) (hj : (j : Int) = s.length - i) (h0 : 0 ≤ i) (hl : len = o.length) (hol : o.length ≤ i.toNat),
    ∃ (g2 : Nat), ∀ (R : Type) (L n m : Nat) (k : Exit → List A → H → Option R), 1 ≤ n → j < m →
    kLoop env (evCall env L n) L 0 [0, 0, 0, 0, 0, 2] (true :: true :: false :: false :: true :: true :: false :: false :: true :: true :: false :: false :: false :: false :: false :: false :: false :: false :: false :: false :: false :: false :: false :: false :: false :: false :: []) (lp_i_restrict 0) (false :: false :: true :: true :: false :: false :: true :: true :: false :: false :: true :: true :: true :: true :: true :: true :: true :: true :: true :: true :: true :: true :: true :: true :: true :: true :: []) m (.d (.str s) :: .d (.int .i64 a) :: .junk :: .junk :: .d (.str ([])) :: .sl 0 g 0 len :: .junk :: .junk :: .d (.int .i64 (s.length)) :: .d (.int .i64 i) :: .junk :: .junk :: .junk :: .junk :: .junk :: .junk :: .junk :: .junk :: .junk :: .junk :: .junk :: .junk :: .junk :: .junk :: .junk :: .junk :: []) [.arr (bytesL o) 1 g] k
    = k (.exit 0) (.d (.str s) :: .d (.int .i64 a) :: .junk :: .junk :: .d (.str ([])) :: .sl 0 g2 0 (o ++ (s.drop i.toNat).filter (inB a)).length :: .junk :: .junk :: .d (.int .i64 (s.length)) :: .d (.int .i64 (s.length)) :: .junk :: .junk :: .junk :: .junk :: .junk :: .junk :: .junk :: .junk :: .junk :: .junk :: .junk :: .junk :: .junk :: .junk :: .junk :: .junk :: []) [.arr (bytesL (o ++ (s.drop i.toNat).filter (inB a))) 1 g2] := by
  intro j
  induction j with
  | zero =>
    intro i o g len hj h0 hl hol
    obtain rfl : i = s.length := by omega
    refine ⟨g, fun R L n m k hn hm => ?_⟩
    obtain ⟨m, rfl⟩ : ∃ q, m = q + 1 := ⟨m - 1, by omega⟩
    rw [step_i_restrict_0]
    simp only [S_i_restrict_0, Try.f75, slimF, slimL, lpOf, codeOf, Option.getD_some, slim, loops, List.length_nil, Nat.add_zero, Nat.zero_add, slimO, slimG, List.map_cons, List.map_nil, List.getElem?_cons_zero, List.getElem?_cons_succ, Option.bind_some, Bool.false_eq_true, if_false, if_true, List.length_cons, List.replicate, List.cons_append, List.nil_append, List.append_nil, Nat.reduceAdd, Nat.reduceSub, List.getD_cons_zero, List.getD_cons_succ]
    simp -implicitDefEqProofs (maxSteps := 250000) (disch := first | assumption | (refine Shut.mk ?_; kernel_rfl) | omega | (simp only [List.length_append, List.length_cons, List.length_nil, List.length_set, List.length_replicate, List.length_map, List.length_take, List.length_drop] <;> omega) | (fail)) only [↓WD, ↓kAsg, thawAt, ↓kRet, ↓reduceIte, box_eq, evPick, aUn_not, evBin_add, evBin_sub, evBin_mul, evBin_and, evBin_or, evBin_xor, evBin_andNot, evBin_quo, evBin_rem, evBin_shl, evBin_shr, evBin_lss, evBin_leq, evBin_gtr, evBin_geq, evBin_eql, evBin_neq, ne_eq, not_true_eq_false, if_false, if_true, aPut, List.getD_nil, List.getD_cons_zero, List.getD_cons_succ, List.set_cons_zero, List.set_cons_succ, leavesBody, outA, outS, idsA, idsL, mapA, gc, mapAs, maskB, isUndef, tidy, Bool.not_true, Bool.not_false, Bool.true_eq_false, Bool.false_eq_true, decide_eq_true_eq, decide_eq_false_iff_not, Option.map_some, Option.bind_some, List.append_nil, List.nil_append, List.map_nil, Int.reduceLT, Int.reduceLE, Int.reduceEq, Int.reduceNe, Int.reduceNeg, Int.reduceAdd, Int.reduceSub, Int.reduceMul, Int.reduceToNat, Nat.reduceAdd, Nat.reduceSub, decide_true, decide_false, Bool.not_eq_false', Bool.not_eq_true', aBuiltin, aAppend, sliceCells, aBuildSlice, aIndexAddr, aLoad, runOf, ofCells, TY, LB, aLen, withInt, ite_some, Nat.mul_one, Nat.one_mul, Nat.zero_add, Nat.add_zero, List.getElem?_cons_zero, List.getElem?_cons_succ, List.length_cons, List.length_nil, List.drop_zero, fillA, frzL, listWith, frz, frz0, deep, cellsA, setRun, okCell, List.all_cons, List.all_nil, Bool.and_self, Bool.and_true, Bool.true_and, List.map_cons, List.zip_cons_cons, List.zip_nil_left, List.replicate, List.flatten_cons, List.flatten_nil, List.take_zero, List.take_nil, List.drop_nil, List.cons_append, Bool.or_self, Bool.or_false, Bool.false_or, Nat.not_lt_zero, notJunk, and_self, and_true, true_and, Bool.or_true, Bool.true_or, Option.map_none, List.drop_succ_cons, Nat.reduceMul, Nat.reduceLeDiff, List.take_succ_cons, Nat.reducePow, Nat.lt_irrefl, List.head?_cons, Option.any_some, List.contains_cons, List.contains_nil, Nat.reduceBEq, keepOrd_zero, keepOrd_eq, boxIds, rng0, rng1, rng2, rng3, kFin_eq, aResults, aResult, outAs, tupA, evNilCheck, aMove, ↓clash_free, ↓kOpD_all, opds, evOp, asOper, one, two, evCallee, evAssign, aNew, evSlice, evField, evExtract, evFunc, Option.getD_none, Option.isNone_none, Option.isNone_some, Option.isSome_none, Option.isSome_some, pureOp, isCall, readOp, List.range', back, putBack, fuelR, closed, aStore, thawCells, reach_nil, reach_cons, place, pack, mapO, Nat.reduceEqDiff, Nat.reduceLT, beq_self_eq_true, Nat.succ_ne_self, Nat.zero_ne_one, Nat.one_ne_zero, List.length_append, false_or, or_false, or_true, true_or, maxNeed, i64_id, ↓conv_slb_to, ↓conv_slb_from, ↓conv_sls_to, ↓conv_sls_from, ↓conv_sls_both, u_string, Int.lt_irrefl]
    subst hl
    simp only [List.drop_length, List.filter_nil, List.append_nil, List.length_nil, Nat.add_zero]
  | succ j ih =>
    intro i o g len hj h0 hl hol
    have hc : i < s.length := by omega
    have hk : i.toNat < s.length := by omega
    have e1 : (i + 1).toNat = i.toNat + 1 := by omega
    rw [filter_go hk (d := 0)]
    cases hb : inB a (s.getD i.toNat 0) with
    | true =>
      have hap : (o ++ [s.getD i.toNat 0]).length = o.length + 1 := by simp
      obtain ⟨g2, kd⟩ := ih (i + 1) (o ++ [s.getD i.toNat 0]) (g + 1) (len + 1) (by omega) (by omega) (by omega) (by omega)
      refine ⟨g2, fun R L n m k hn hm => ?_⟩
      obtain ⟨m, rfl⟩ : ∃ q, m = q + 1 := ⟨m - 1, by omega⟩
      rw [step_i_restrict_0]
      simp only [S_i_restrict_0, Try.f75, slimF, slimL, lpOf, codeOf, Option.getD_some, slim, loops, List.length_nil, Nat.add_zero, Nat.zero_add, slimO, slimG, List.map_cons, List.map_nil, List.getElem?_cons_zero, List.getElem?_cons_succ, Option.bind_some, Bool.false_eq_true, if_false, if_true, List.length_cons, List.replicate, List.cons_append, List.nil_append, List.append_nil, Nat.reduceAdd, Nat.reduceSub, List.getD_cons_zero, List.getD_cons_succ]
      simp -implicitDefEqProofs (maxSteps := 250000) (disch := first | assumption | (refine Shut.mk ?_; kernel_rfl) | omega | (simp only [List.length_append, List.length_cons, List.length_nil, List.length_set, List.length_replicate, List.length_map, List.length_take, List.length_drop] <;> omega) | (fail)) only [↓WD, ↓kAsg, thawAt, ↓kRet, ↓reduceIte, box_eq, evPick, aUn_not, evBin_add, evBin_sub, evBin_mul, evBin_and, evBin_or, evBin_xor, evBin_andNot, evBin_quo, evBin_rem, evBin_shl, evBin_shr, evBin_lss, evBin_leq, evBin_gtr, evBin_geq, evBin_eql, evBin_neq, ne_eq, not_true_eq_false, if_false, if_true, aPut, List.getD_nil, List.getD_cons_zero, List.getD_cons_succ, List.set_cons_zero, List.set_cons_succ, leavesBody, outA, outS, idsA, idsL, mapA, gc, mapAs, maskB, isUndef, tidy, Bool.not_true, Bool.not_false, Bool.true_eq_false, Bool.false_eq_true, decide_eq_true_eq, decide_eq_false_iff_not, Option.map_some, Option.bind_some, List.append_nil, List.nil_append, List.map_nil, Int.reduceLT, Int.reduceLE, Int.reduceEq, Int.reduceNe, Int.reduceNeg, Int.reduceAdd, Int.reduceSub, Int.reduceMul, Int.reduceToNat, Nat.reduceAdd, Nat.reduceSub, decide_true, decide_false, Bool.not_eq_false', Bool.not_eq_true', aBuiltin, aAppend, sliceCells, aBuildSlice, aIndexAddr, aLoad, runOf, ofCells, TY, LB, aLen, withInt, ite_some, Nat.mul_one, Nat.one_mul, Nat.zero_add, Nat.add_zero, List.getElem?_cons_zero, List.getElem?_cons_succ, List.length_cons, List.length_nil, List.drop_zero, fillA, frzL, listWith, frz, frz0, deep, cellsA, setRun, okCell, List.all_cons, List.all_nil, Bool.and_self, Bool.and_true, Bool.true_and, List.map_cons, List.zip_cons_cons, List.zip_nil_left, List.replicate, List.flatten_cons, List.flatten_nil, List.take_zero, List.take_nil, List.drop_nil, List.cons_append, Bool.or_self, Bool.or_false, Bool.false_or, Nat.not_lt_zero, notJunk, and_self, and_true, true_and, Bool.or_true, Bool.true_or, Option.map_none, List.drop_succ_cons, Nat.reduceMul, Nat.reduceLeDiff, List.take_succ_cons, Nat.reducePow, Nat.lt_irrefl, List.head?_cons, Option.any_some, List.contains_cons, List.contains_nil, Nat.reduceBEq, keepOrd_zero, keepOrd_eq, boxIds, rng0, rng1, rng2, rng3, kFin_eq, aResults, aResult, outAs, tupA, evNilCheck, aMove, ↓clash_free, ↓kOpD_all, opds, evOp, asOper, one, two, evCallee, evAssign, aNew, evSlice, evField, evExtract, evFunc, Option.getD_none, Option.isNone_none, Option.isNone_some, Option.isSome_none, Option.isSome_some, pureOp, isCall, readOp, List.range', back, putBack, fuelR, closed, aStore, thawCells, reach_nil, reach_cons, place, pack, mapO, Nat.reduceEqDiff, Nat.reduceLT, beq_self_eq_true, Nat.succ_ne_self, Nat.zero_ne_one, Nat.one_ne_zero, List.length_append, false_or, or_false, or_true, true_or, maxNeed, i64_id, ↓conv_slb_to, ↓conv_slb_from, ↓conv_sls_to, ↓conv_sls_from, ↓conv_sls_both, u_string, hc, ↓kc_i_letterAt, ↓kc_i_has, has_at, hb, ↓kd]
      simp only [e1, List.append_assoc, List.cons_append, List.nil_append, Nat.add_assoc, Nat.add_comm 1]
    | false =>
      obtain ⟨g2, kd⟩ := ih (i + 1) o g len (by omega) (by omega) (by omega) (by omega)
      refine ⟨g2, fun R L n m k hn hm => ?_⟩
      obtain ⟨m, rfl⟩ : ∃ q, m = q + 1 := ⟨m - 1, by omega⟩
      rw [step_i_restrict_0]
      simp only [S_i_restrict_0, Try.f75, slimF, slimL, lpOf, codeOf, Option.getD_some, slim, loops, List.length_nil, Nat.add_zero, Nat.zero_add, slimO, slimG, List.map_cons, List.map_nil, List.getElem?_cons_zero, List.getElem?_cons_succ, Option.bind_some, Bool.false_eq_true, if_false, if_true, List.length_cons, List.replicate, List.cons_append, List.nil_append, List.append_nil, Nat.reduceAdd, Nat.reduceSub, List.getD_cons_zero, List.getD_cons_succ]
      simp -implicitDefEqProofs (maxSteps := 250000) (disch := first | assumption | (refine Shut.mk ?_; kernel_rfl) | omega | (simp only [List.length_append, List.length_cons, List.length_nil, List.length_set, List.length_replicate, List.length_map, List.length_take, List.length_drop] <;> omega) | (fail)) only [↓WD, ↓kAsg, thawAt, ↓kRet, ↓reduceIte, box_eq, evPick, aUn_not, evBin_add, evBin_sub, evBin_mul, evBin_and, evBin_or, evBin_xor, evBin_andNot, evBin_quo, evBin_rem, evBin_shl, evBin_shr, evBin_lss, evBin_leq, evBin_gtr, evBin_geq, evBin_eql, evBin_neq, ne_eq, not_true_eq_false, if_false, if_true, aPut, List.getD_nil, List.getD_cons_zero, List.getD_cons_succ, List.set_cons_zero, List.set_cons_succ, leavesBody, outA, outS, idsA, idsL, mapA, gc, mapAs, maskB, isUndef, tidy, Bool.not_true, Bool.not_false, Bool.true_eq_false, Bool.false_eq_true, decide_eq_true_eq, decide_eq_false_iff_not, Option.map_some, Option.bind_some, List.append_nil, List.nil_append, List.map_nil, Int.reduceLT, Int.reduceLE, Int.reduceEq, Int.reduceNe, Int.reduceNeg, Int.reduceAdd, Int.reduceSub, Int.reduceMul, Int.reduceToNat, Nat.reduceAdd, Nat.reduceSub, decide_true, decide_false, Bool.not_eq_false', Bool.not_eq_true', aBuiltin, aAppend, sliceCells, aBuildSlice, aIndexAddr, aLoad, runOf, ofCells, TY, LB, aLen, withInt, ite_some, Nat.mul_one, Nat.one_mul, Nat.zero_add, Nat.add_zero, List.getElem?_cons_zero, List.getElem?_cons_succ, List.length_cons, List.length_nil, List.drop_zero, fillA, frzL, listWith, frz, frz0, deep, cellsA, setRun, okCell, List.all_cons, List.all_nil, Bool.and_self, Bool.and_true, Bool.true_and, List.map_cons, List.zip_cons_cons, List.zip_nil_left, List.replicate, List.flatten_cons, List.flatten_nil, List.take_zero, List.take_nil, List.drop_nil, List.cons_append, Bool.or_self, Bool.or_false, Bool.false_or, Nat.not_lt_zero, notJunk, and_self, and_true, true_and, Bool.or_true, Bool.true_or, Option.map_none, List.drop_succ_cons, Nat.reduceMul, Nat.reduceLeDiff, List.take_succ_cons, Nat.reducePow, Nat.lt_irrefl, List.head?_cons, Option.any_some, List.contains_cons, List.contains_nil, Nat.reduceBEq, keepOrd_zero, keepOrd_eq, boxIds, rng0, rng1, rng2, rng3, kFin_eq, aResults, aResult, outAs, tupA, evNilCheck, aMove, ↓clash_free, ↓kOpD_all, opds, evOp, asOper, one, two, evCallee, evAssign, aNew, evSlice, evField, evExtract, evFunc, Option.getD_none, Option.isNone_none, Option.isNone_some, Option.isSome_none, Option.isSome_some, pureOp, isCall, readOp, List.range', back, putBack, fuelR, closed, aStore, thawCells, reach_nil, reach_cons, place, pack, mapO, Nat.reduceEqDiff, Nat.reduceLT, beq_self_eq_true, Nat.succ_ne_self, Nat.zero_ne_one, Nat.one_ne_zero, List.length_append, false_or, or_false, or_true, true_or, maxNeed, i64_id, ↓conv_slb_to, ↓conv_slb_from, ↓conv_sls_to, ↓conv_sls_from, ↓conv_sls_both, u_string, hc, ↓kc_i_letterAt, ↓kc_i_has, has_at, hb, ↓kd]
      simp only [e1, Bool.false_eq_true, if_false]

theorem ev_i_restrict {L n : Nat} (hn : 2 ≤ n) (s : List UInt8) (a : Int) (hs : s.length ≤ 60000) (hL : 2 ^ 60 ≤ L) : evCall env L n 75 [.d (.str s), .d (.int .i64 a)] [] = some (.d (.str (s.filter (inB a))), []) := by
  obtain ⟨g2, kd⟩ := ex_loop_i_restrict (a := a) hs s.length 0 [] 0 0 (by omega) (by omega) rfl (by simp)
  simp only [Int.toNat_zero, List.drop_zero, List.nil_append] at kd
  obtain ⟨n, rfl⟩ : ∃ m, n = m + 1 := ⟨n - 1, by omega⟩
  rw [fn_i_restrict]
  simp only [S_i_restrict, Try.f75, slimF, slimL, lpOf, codeOf, Option.getD_some, slim, loops, List.length_nil, Nat.add_zero, Nat.zero_add, slimO, slimG, List.map_cons, List.map_nil, List.getElem?_cons_zero, List.getElem?_cons_succ, Option.bind_some, Bool.false_eq_true, if_false, if_true, List.length_cons, List.replicate, List.cons_append, List.nil_append, List.append_nil, Nat.reduceAdd, Nat.reduceSub, List.getD_cons_zero, List.getD_cons_succ]
  simp -implicitDefEqProofs (maxSteps := 250000) (disch := first | assumption | (refine Shut.mk ?_; kernel_rfl) | omega | (simp only [List.length_append, List.length_cons, List.length_nil, List.length_set, List.length_replicate, List.length_map, List.length_take, List.length_drop] <;> omega) | (fail)) only [↓WD, ↓kAsg, thawAt, ↓kRet, ↓reduceIte, box_eq, evPick, aUn_not, evBin_add, evBin_sub, evBin_mul, evBin_and, evBin_or, evBin_xor, evBin_andNot, evBin_quo, evBin_rem, evBin_shl, evBin_shr, evBin_lss, evBin_leq, evBin_gtr, evBin_geq, evBin_eql, evBin_neq, ne_eq, not_true_eq_false, if_false, if_true, aPut, List.getD_nil, List.getD_cons_zero, List.getD_cons_succ, List.set_cons_zero, List.set_cons_succ, leavesBody, outA, outS, idsA, idsL, mapA, gc, mapAs, maskB, isUndef, tidy, Bool.not_true, Bool.not_false, Bool.true_eq_false, Bool.false_eq_true, decide_eq_true_eq, decide_eq_false_iff_not, Option.map_some, Option.bind_some, List.append_nil, List.nil_append, List.map_nil, Int.reduceLT, Int.reduceLE, Int.reduceEq, Int.reduceNe, Int.reduceNeg, Int.reduceAdd, Int.reduceSub, Int.reduceMul, Int.reduceToNat, Nat.reduceAdd, Nat.reduceSub, decide_true, decide_false, Bool.not_eq_false', Bool.not_eq_true', aBuiltin, aAppend, sliceCells, aBuildSlice, aIndexAddr, aLoad, runOf, ofCells, TY, LB, aLen, withInt, ite_some, Nat.mul_one, Nat.one_mul, Nat.zero_add, Nat.add_zero, List.getElem?_cons_zero, List.getElem?_cons_succ, List.length_cons, List.length_nil, List.drop_zero, fillA, frzL, listWith, frz, frz0, deep, cellsA, setRun, okCell, List.all_cons, List.all_nil, Bool.and_self, Bool.and_true, Bool.true_and, List.map_cons, List.zip_cons_cons, List.zip_nil_left, List.replicate, List.flatten_cons, List.flatten_nil, List.take_zero, List.take_nil, List.drop_nil, List.cons_append, Bool.or_self, Bool.or_false, Bool.false_or, Nat.not_lt_zero, notJunk, and_self, and_true, true_and, Bool.or_true, Bool.true_or, Option.map_none, List.drop_succ_cons, Nat.reduceMul, Nat.reduceLeDiff, List.take_succ_cons, Nat.reducePow, Nat.lt_irrefl, List.head?_cons, Option.any_some, List.contains_cons, List.contains_nil, Nat.reduceBEq, keepOrd_zero, keepOrd_eq, boxIds, rng0, rng1, rng2, rng3, kFin_eq, aResults, aResult, outAs, tupA, evNilCheck, aMove, ↓clash_free, ↓kOpD_all, opds, evOp, asOper, one, two, evCallee, evAssign, aNew, evSlice, evField, evExtract, evFunc, Option.getD_none, Option.isNone_none, Option.isNone_some, Option.isSome_none, Option.isSome_some, pureOp, isCall, readOp, List.range', back, putBack, fuelR, closed, aStore, thawCells, reach_nil, reach_cons, place, pack, mapO, Nat.reduceEqDiff, Nat.reduceLT, beq_self_eq_true, Nat.succ_ne_self, Nat.zero_ne_one, Nat.one_ne_zero, List.length_append, false_or, or_false, or_true, true_or, maxNeed, i64_id, ↓conv_slb_to, ↓conv_slb_from, ↓conv_sls_to, ↓conv_sls_from, ↓conv_sls_both, nil_bytes, ↓kd, ↓conv_bytes_str]
theorem kc_i_restrict {R : Type} {L n : Nat} {hq : H} {k : A → H → Option R} (hn : 2 ≤ n) (s : List UInt8) (a : Int) (hs : s.length ≤ 60000) (hL : 2 ^ 60 ≤ L) : kCall env (evCall env L n) hq 75 [.d (.str s), .d (.int .i64 a)] k = k (.d (.str (s.filter (inB a)))) hq :=
  kCall_still rfl (ev_i_restrict hn s a hs hL) rfl (.inl rfl)

theorem ev_i_RestrictWord {L n : Nat} (hn : 4 ≤ n) (s : List UInt8) (a : Int) (hL : 2 ^ 60 ≤ L) : evCall env L n 22 [.d (.str s), .d (.int .i64 a)] [] = some (.d (.str (if wordOK s && isAlpha a then s.filter (inB a) else [])), []) := by
  cases hw : wordOK s with
  | false =>
    obtain ⟨n, rfl⟩ : ∃ m, n = m + 1 := ⟨n - 1, by omega⟩
    rw [fn_i_RestrictWord]
    simp only [S_i_RestrictWord, Try.f22, slimF, slimL, lpOf, codeOf, Option.getD_some, slim, loops, List.length_nil, Nat.add_zero, Nat.zero_add, slimO, slimG, List.map_cons, List.map_nil, List.getElem?_cons_zero, List.getElem?_cons_succ, Option.bind_some, Bool.false_eq_true, if_false, if_true, List.length_cons, List.replicate, List.cons_append, List.nil_append, List.append_nil, Nat.reduceAdd, Nat.reduceSub, List.getD_cons_zero, List.getD_cons_succ]
    simp -implicitDefEqProofs (maxSteps := 250000) (disch := first | assumption | (refine Shut.mk ?_; kernel_rfl) | omega | (simp only [List.length_append, List.length_cons, List.length_nil, List.length_set, List.length_replicate, List.length_map, List.length_take, List.length_drop] <;> omega) | (fail)) only [↓WD, ↓kAsg, thawAt, ↓kRet, ↓reduceIte, box_eq, evPick, aUn_not, evBin_add, evBin_sub, evBin_mul, evBin_and, evBin_or, evBin_xor, evBin_andNot, evBin_quo, evBin_rem, evBin_shl, evBin_shr, evBin_lss, evBin_leq, evBin_gtr, evBin_geq, evBin_eql, evBin_neq, ne_eq, not_true_eq_false, if_false, if_true, aPut, List.getD_nil, List.getD_cons_zero, List.getD_cons_succ, List.set_cons_zero, List.set_cons_succ, leavesBody, outA, outS, idsA, idsL, mapA, gc, mapAs, maskB, isUndef, tidy, Bool.not_true, Bool.not_false, Bool.true_eq_false, Bool.false_eq_true, decide_eq_true_eq, decide_eq_false_iff_not, Option.map_some, Option.bind_some, List.append_nil, List.nil_append, List.map_nil, Int.reduceLT, Int.reduceLE, Int.reduceEq, Int.reduceNe, Int.reduceNeg, Int.reduceAdd, Int.reduceSub, Int.reduceMul, Int.reduceToNat, Nat.reduceAdd, Nat.reduceSub, decide_true, decide_false, Bool.not_eq_false', Bool.not_eq_true', aBuiltin, aAppend, sliceCells, aBuildSlice, aIndexAddr, aLoad, runOf, ofCells, TY, LB, aLen, withInt, ite_some, Nat.mul_one, Nat.one_mul, Nat.zero_add, Nat.add_zero, List.getElem?_cons_zero, List.getElem?_cons_succ, List.length_cons, List.length_nil, List.drop_zero, fillA, frzL, listWith, frz, frz0, deep, cellsA, setRun, okCell, List.all_cons, List.all_nil, Bool.and_self, Bool.and_true, Bool.true_and, List.map_cons, List.zip_cons_cons, List.zip_nil_left, List.replicate, List.flatten_cons, List.flatten_nil, List.take_zero, List.take_nil, List.drop_nil, List.cons_append, Bool.or_self, Bool.or_false, Bool.false_or, Nat.not_lt_zero, notJunk, and_self, and_true, true_and, Bool.or_true, Bool.true_or, Option.map_none, List.drop_succ_cons, Nat.reduceMul, Nat.reduceLeDiff, List.take_succ_cons, Nat.reducePow, Nat.lt_irrefl, List.head?_cons, Option.any_some, List.contains_cons, List.contains_nil, Nat.reduceBEq, keepOrd_zero, keepOrd_eq, boxIds, rng0, rng1, rng2, rng3, kFin_eq, aResults, aResult, outAs, tupA, evNilCheck, aMove, ↓clash_free, ↓kOpD_all, opds, evOp, asOper, one, two, evCallee, evAssign, aNew, evSlice, evField, evExtract, evFunc, Option.getD_none, Option.isNone_none, Option.isNone_some, Option.isSome_none, Option.isSome_some, pureOp, isCall, readOp, List.range', back, putBack, fuelR, closed, aStore, thawCells, reach_nil, reach_cons, place, pack, mapO, Nat.reduceEqDiff, Nat.reduceLT, beq_self_eq_true, Nat.succ_ne_self, Nat.zero_ne_one, Nat.one_ne_zero, List.length_append, false_or, or_false, or_true, true_or, maxNeed, i64_id, ↓conv_slb_to, ↓conv_slb_from, ↓conv_sls_to, ↓conv_sls_from, ↓conv_sls_both, ↓kc_i_WordValid, hw, Bool.false_and]
  | true =>
    have hs : s.length ≤ 60000 := by
      unfold wordOK at hw
      simp only [Bool.and_eq_true, decide_eq_true_eq] at hw
      omega
    cases ha : isAlpha a with
    | false =>
      obtain ⟨n, rfl⟩ : ∃ m, n = m + 1 := ⟨n - 1, by omega⟩
      rw [fn_i_RestrictWord]
      simp only [S_i_RestrictWord, Try.f22, slimF, slimL, lpOf, codeOf, Option.getD_some, slim, loops, List.length_nil, Nat.add_zero, Nat.zero_add, slimO, slimG, List.map_cons, List.map_nil, List.getElem?_cons_zero, List.getElem?_cons_succ, Option.bind_some, Bool.false_eq_true, if_false, if_true, List.length_cons, List.replicate, List.cons_append, List.nil_append, List.append_nil, Nat.reduceAdd, Nat.reduceSub, List.getD_cons_zero, List.getD_cons_succ]
      simp -implicitDefEqProofs (maxSteps := 250000) (disch := first | assumption | (refine Shut.mk ?_; kernel_rfl) | omega | (simp only [List.length_append, List.length_cons, List.length_nil, List.length_set, List.length_replicate, List.length_map, List.length_take, List.length_drop] <;> omega) | (fail)) only [↓WD, ↓kAsg, thawAt, ↓kRet, ↓reduceIte, box_eq, evPick, aUn_not, evBin_add, evBin_sub, evBin_mul, evBin_and, evBin_or, evBin_xor, evBin_andNot, evBin_quo, evBin_rem, evBin_shl, evBin_shr, evBin_lss, evBin_leq, evBin_gtr, evBin_geq, evBin_eql, evBin_neq, ne_eq, not_true_eq_false, if_false, if_true, aPut, List.getD_nil, List.getD_cons_zero, List.getD_cons_succ, List.set_cons_zero, List.set_cons_succ, leavesBody, outA, outS, idsA, idsL, mapA, gc, mapAs, maskB, isUndef, tidy, Bool.not_true, Bool.not_false, Bool.true_eq_false, Bool.false_eq_true, decide_eq_true_eq, decide_eq_false_iff_not, Option.map_some, Option.bind_some, List.append_nil, List.nil_append, List.map_nil, Int.reduceLT, Int.reduceLE, Int.reduceEq, Int.reduceNe, Int.reduceNeg, Int.reduceAdd, Int.reduceSub, Int.reduceMul, Int.reduceToNat, Nat.reduceAdd, Nat.reduceSub, decide_true, decide_false, Bool.not_eq_false', Bool.not_eq_true', aBuiltin, aAppend, sliceCells, aBuildSlice, aIndexAddr, aLoad, runOf, ofCells, TY, LB, aLen, withInt, ite_some, Nat.mul_one, Nat.one_mul, Nat.zero_add, Nat.add_zero, List.getElem?_cons_zero, List.getElem?_cons_succ, List.length_cons, List.length_nil, List.drop_zero, fillA, frzL, listWith, frz, frz0, deep, cellsA, setRun, okCell, List.all_cons, List.all_nil, Bool.and_self, Bool.and_true, Bool.true_and, List.map_cons, List.zip_cons_cons, List.zip_nil_left, List.replicate, List.flatten_cons, List.flatten_nil, List.take_zero, List.take_nil, List.drop_nil, List.cons_append, Bool.or_self, Bool.or_false, Bool.false_or, Nat.not_lt_zero, notJunk, and_self, and_true, true_and, Bool.or_true, Bool.true_or, Option.map_none, List.drop_succ_cons, Nat.reduceMul, Nat.reduceLeDiff, List.take_succ_cons, Nat.reducePow, Nat.lt_irrefl, List.head?_cons, Option.any_some, List.contains_cons, List.contains_nil, Nat.reduceBEq, keepOrd_zero, keepOrd_eq, boxIds, rng0, rng1, rng2, rng3, kFin_eq, aResults, aResult, outAs, tupA, evNilCheck, aMove, ↓clash_free, ↓kOpD_all, opds, evOp, asOper, one, two, evCallee, evAssign, aNew, evSlice, evField, evExtract, evFunc, Option.getD_none, Option.isNone_none, Option.isNone_some, Option.isSome_none, Option.isSome_some, pureOp, isCall, readOp, List.range', back, putBack, fuelR, closed, aStore, thawCells, reach_nil, reach_cons, place, pack, mapO, Nat.reduceEqDiff, Nat.reduceLT, beq_self_eq_true, Nat.succ_ne_self, Nat.zero_ne_one, Nat.one_ne_zero, List.length_append, false_or, or_false, or_true, true_or, maxNeed, i64_id, ↓conv_slb_to, ↓conv_slb_from, ↓conv_sls_to, ↓conv_sls_from, ↓conv_sls_both, ↓kc_i_WordValid, ↓kc_i_isAlphabet, hw, ha]
    | true =>
      obtain ⟨n, rfl⟩ : ∃ m, n = m + 1 := ⟨n - 1, by omega⟩
      rw [fn_i_RestrictWord]
      simp only [S_i_RestrictWord, Try.f22, slimF, slimL, lpOf, codeOf, Option.getD_some, slim, loops, List.length_nil, Nat.add_zero, Nat.zero_add, slimO, slimG, List.map_cons, List.map_nil, List.getElem?_cons_zero, List.getElem?_cons_succ, Option.bind_some, Bool.false_eq_true, if_false, if_true, List.length_cons, List.replicate, List.cons_append, List.nil_append, List.append_nil, Nat.reduceAdd, Nat.reduceSub, List.getD_cons_zero, List.getD_cons_succ]
      simp -implicitDefEqProofs (maxSteps := 250000) (disch := first | assumption | (refine Shut.mk ?_; kernel_rfl) | omega | (simp only [List.length_append, List.length_cons, List.length_nil, List.length_set, List.length_replicate, List.length_map, List.length_take, List.length_drop] <;> omega) | (fail)) only [↓WD, ↓kAsg, thawAt, ↓kRet, ↓reduceIte, box_eq, evPick, aUn_not, evBin_add, evBin_sub, evBin_mul, evBin_and, evBin_or, evBin_xor, evBin_andNot, evBin_quo, evBin_rem, evBin_shl, evBin_shr, evBin_lss, evBin_leq, evBin_gtr, evBin_geq, evBin_eql, evBin_neq, ne_eq, not_true_eq_false, if_false, if_true, aPut, List.getD_nil, List.getD_cons_zero, List.getD_cons_succ, List.set_cons_zero, List.set_cons_succ, leavesBody, outA, outS, idsA, idsL, mapA, gc, mapAs, maskB, isUndef, tidy, Bool.not_true, Bool.not_false, Bool.true_eq_false, Bool.false_eq_true, decide_eq_true_eq, decide_eq_false_iff_not, Option.map_some, Option.bind_some, List.append_nil, List.nil_append, List.map_nil, Int.reduceLT, Int.reduceLE, Int.reduceEq, Int.reduceNe, Int.reduceNeg, Int.reduceAdd, Int.reduceSub, Int.reduceMul, Int.reduceToNat, Nat.reduceAdd, Nat.reduceSub, decide_true, decide_false, Bool.not_eq_false', Bool.not_eq_true', aBuiltin, aAppend, sliceCells, aBuildSlice, aIndexAddr, aLoad, runOf, ofCells, TY, LB, aLen, withInt, ite_some, Nat.mul_one, Nat.one_mul, Nat.zero_add, Nat.add_zero, List.getElem?_cons_zero, List.getElem?_cons_succ, List.length_cons, List.length_nil, List.drop_zero, fillA, frzL, listWith, frz, frz0, deep, cellsA, setRun, okCell, List.all_cons, List.all_nil, Bool.and_self, Bool.and_true, Bool.true_and, List.map_cons, List.zip_cons_cons, List.zip_nil_left, List.replicate, List.flatten_cons, List.flatten_nil, List.take_zero, List.take_nil, List.drop_nil, List.cons_append, Bool.or_self, Bool.or_false, Bool.false_or, Nat.not_lt_zero, notJunk, and_self, and_true, true_and, Bool.or_true, Bool.true_or, Option.map_none, List.drop_succ_cons, Nat.reduceMul, Nat.reduceLeDiff, List.take_succ_cons, Nat.reducePow, Nat.lt_irrefl, List.head?_cons, Option.any_some, List.contains_cons, List.contains_nil, Nat.reduceBEq, keepOrd_zero, keepOrd_eq, boxIds, rng0, rng1, rng2, rng3, kFin_eq, aResults, aResult, outAs, tupA, evNilCheck, aMove, ↓clash_free, ↓kOpD_all, opds, evOp, asOper, one, two, evCallee, evAssign, aNew, evSlice, evField, evExtract, evFunc, Option.getD_none, Option.isNone_none, Option.isNone_some, Option.isSome_none, Option.isSome_some, pureOp, isCall, readOp, List.range', back, putBack, fuelR, closed, aStore, thawCells, reach_nil, reach_cons, place, pack, mapO, Nat.reduceEqDiff, Nat.reduceLT, beq_self_eq_true, Nat.succ_ne_self, Nat.zero_ne_one, Nat.one_ne_zero, List.length_append, false_or, or_false, or_true, true_or, maxNeed, i64_id, ↓conv_slb_to, ↓conv_slb_from, ↓conv_sls_to, ↓conv_sls_from, ↓conv_sls_both, ↓kc_i_WordValid, ↓kc_i_isAlphabet, ↓kc_i_restrict, hw, ha]
theorem kc_i_RestrictWord {R : Type} {L n : Nat} {hq : H} {k : A → H → Option R} (hn : 4 ≤ n) (s : List UInt8) (a : Int) (hL : 2 ^ 60 ≤ L) : kCall env (evCall env L n) hq 22 [.d (.str s), .d (.int .i64 a)] k = k (.d (.str (if wordOK s && isAlpha a then s.filter (inB a) else []))) hq :=
  kCall_still rfl (ev_i_RestrictWord hn s a hL) rfl (.inl rfl)

end Ev
end Go.Proofs.Ytidobgmklcbcpaa
