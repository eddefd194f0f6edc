/-
  Systems with exchanged letters: plain laws.
-/
import Derived.Test.YtojaohcpgelhmaaDoorStates
import Derived.Test.YtojaohcpgelhmaaDoorSwapS
import Derived.Test.YtojaohcpgelhmaaDoorFnExactAddEdge
import Derived.Test.YtojaohcpgelhmaaDoorWords
import Derived.Test.YtojaohcpgelhmaaDoorSwapL
import Derived.Test.YtojaohcpgelhmaaDoorDropS
import Derived.Test.YtojaohcpgelhmaaDoorAgS
section
namespace Go.Proofs.YtojaohcpgelhmaaDoor
namespace Ev

theorem leE_strict {a b : Edge} (h : leE a b = true) (hne : a ≠ b) : beforeE a b = true := by
  unfold leE at h
  cases hb : beforeE a b with
  | true => rfl
  | false =>
    have h2 : beforeE b a = false := by simpa using h
    exact absurd (beforeE_total hb h2) hne

theorem swapE_swapE (x y : Int) (e : Edge) : swapE x y (swapE x y e) = e := by
  unfold swapE
  simp only [swapI_swapI]

theorem sorted_nodup {l : List Edge} (h : SortedE l) : l.Nodup := by
  refine List.Pairwise.imp ?_ h
  intro a b hab e
  subst e
  rw [beforeE_irrefl] at hab; cases hab

theorem swap_sorted {l : List Edge} {x y : Int} (h : SortedE l) : SortedE (sortE (l.map (swapE x y))) := by
  have hn : (l.map (swapE x y)).Nodup := by
    refine List.pairwise_map.2 ((sorted_nodup h).imp fun {a b} hne hab => hne ?_)
    have := congrArg (swapE x y) hab
    simpa only [swapE_swapE] using this
  have hn2 : (sortE (l.map (swapE x y))).Nodup := (sortE_perm _).nodup_iff.2 hn
  exact List.Pairwise.imp₂ (fun a b hab hne => leE_strict hab hne) (sortE_sorted _) hn2

theorem isLet_swap {l x y : Int} (hl : isLet l = true) (hx : isLet x = true) (hy : isLet y = true) : isLet (swapI l x y) = true := by
  unfold swapI
  split
  · exact hy
  · split
    · exact hx
    · exact hl

theorem swap_valid {al st x y : Int} {l : List Edge} (h : sysOK ⟨al, st, l⟩ = true) (hx : isLet x = true) (hy : isLet y = true) : sysOK ⟨swapAlpha al x y, st, sortE (l.map (swapE x y))⟩ = true := by
  have h' := h
  unfold sysOK at h'
  simp only [Bool.and_eq_true, decide_eq_true_eq] at h'
  refine sysOK_of (swapAlpha_alpha h'.1.1.1 hx hy) h'.1.1.2 h'.1.2 (fun e he => ?_) (swap_sorted (sysOK_sorted h))
  obtain ⟨e0, he0, rfl⟩ := List.mem_map.1 ((sortE_perm _).mem_iff.1 he)
  have h1 := sysOK_edge h he0
  unfold edgeOK at h1 ⊢
  simp only [Bool.and_eq_true, decide_eq_true_eq] at h1 ⊢
  have hl : isLet e0.lt = true := by unfold isLet; simp; omega
  have hl2 := isLet_swap hl hx hy
  have hl3 := hl2
  unfold isLet at hl3
  simp only [decide_eq_true_eq] at hl3
  refine ⟨⟨⟨⟨⟨⟨h1.1.1.1.1.1.1, h1.1.1.1.1.1.2⟩, h1.1.1.1.1.2⟩, h1.1.1.1.2⟩, ?_⟩, ?_⟩, ?_⟩
  · exact hl3.1
  · exact hl3.2
  · show bitAt (swapAlpha al x y) (swapI e0.lt x y) = true
    rw [swapAlpha_bit h'.1.1.1 hx hy hl2, swapI_swapI]
    exact h1.2

theorem swap_back {al st x y : Int} {l : List Edge} (h : sysOK ⟨al, st, l⟩ = true) (hx : isLet x = true) (hy : isLet y = true) : swapS ⟨swapAlpha al x y, st, sortE (l.map (swapE x y))⟩ x y = some ⟨al, st, l⟩ := by
  have h' := h
  unfold sysOK at h'
  simp only [Bool.and_eq_true, decide_eq_true_eq] at h'
  unfold swapS
  rw [swap_valid h hx hy, hx, hy]
  simp only [Bool.and_self, if_true]
  rw [swapAlpha_twice h'.1.1.1 hx hy]
  congr 2
  refine sorted_unique (sortE_sorted _) ((sysOK_sorted h).imp leE_of_before) ?_
  refine (sortE_perm _).trans (((sortE_perm _).map _).trans ?_)
  rw [List.map_map]
  have : (swapE x y ∘ swapE x y) = id := by funext e; exact swapE_swapE x y e
  rw [this, List.map_id]

/-- The table of the exchanged system. -/
theorem swap_mv {al st x y : Int} {l : List Edge} (h : sysOK ⟨al, st, l⟩ = true) (hx : isLet x = true) (hy : isLet y = true) {c : Int} (hc : isLet c = true) (k : Nat) :
    mvAt (sortE (l.map (swapE x y))).reverse (k * 6 + (swapI c x y).toNat) = mvAt l.reverse (k * 6 + c.toNat) := by
  have hv := sys_bounds h
  have hc' := hc
  unfold isLet at hc'
  simp only [decide_eq_true_eq] at hc'
  have hs := isLet_swap hc hx hy
  unfold isLet at hs
  simp only [decide_eq_true_eq] at hs
  apply Nat.eq_of_testBit_eq
  intro j
  rw [Bool.eq_iff_iff, mvAt_bit, mvAt_bit]
  constructor
  · rintro ⟨e, he, h1, h2⟩
    obtain ⟨e0, he0, rfl⟩ := List.mem_map.1 ((sortE_perm _).mem_iff.1 (List.mem_reverse.1 he))
    have b := hv e0 he0
    have hl : isLet e0.lt = true := by unfold isLet; simp; omega
    have hb := isLet_swap hl hx hy
    unfold isLet at hb
    simp only [decide_eq_true_eq] at hb
    refine ⟨e0, List.mem_reverse.2 he0, ?_, h2⟩
    have h1 : e0.fr.toNat * 6 + (swapI e0.lt x y).toNat = k * 6 + (swapI c x y).toNat := h1
    have h3 : swapI e0.lt x y = swapI c x y := by omega
    have h4 : e0.lt = c := by
      have := congrArg (fun z => swapI z x y) h3
      simpa only [swapI_swapI] using this
    rw [h4]
    omega
  · rintro ⟨e, he, h1, h2⟩
    have he := List.mem_reverse.1 he
    have b := hv e he
    refine ⟨swapE x y e, List.mem_reverse.2 ((sortE_perm _).mem_iff.2 (List.mem_map_of_mem he)), ?_, h2⟩
    have h3 : e.lt = c := by omega
    show e.fr.toNat * 6 + (swapI e.lt x y).toNat = _
    rw [h3]
    omega

theorem saGo_same {l l' : List Edge} {w w' : List UInt8} (hl : w'.length = w.length) (hs : ∀ i, i < w.length → ∀ s, stepL l' (w'.getD i 0) s = stepL l (w.getD i 0) s) : ∀ (j i s : Nat), saGo l' w' j i s = saGo l w j i s
  | 0, i, s => rfl
  | j + 1, i, s => by
    unfold saGo
    rw [hl]
    split
    · rename_i h
      rw [hs i h.1, saGo_same hl hs j]
    · rfl

theorem swap_states {al st x y : Int} {l : List Edge} {w : List UInt8} (h : sysOK ⟨al, st, l⟩ = true) (hx : isLet x = true) (hy : isLet y = true) (hw : wordIn al w = true) :
    statesAfter ⟨swapAlpha al x y, st, sortE (l.map (swapE x y))⟩ (swapWord w x y) = statesAfter ⟨al, st, l⟩ w := by
  have h' := h
  unfold sysOK at h'
  simp only [Bool.and_eq_true, decide_eq_true_eq] at h'
  have ha := h'.1.1.1
  have hw' := hw
  unfold wordIn at hw'
  simp only [Bool.and_eq_true, decide_eq_true_eq] at hw'
  have hin : ∀ b ∈ w, okB b = true ∧ bitAt al (ltr b) = true := by
    intro b hb
    have := List.all_eq_true.1 hw'.2 b hb
    unfold inB at this
    simpa only [Bool.and_eq_true] using this
  have hok : wordOK w = true := by
    unfold wordOK
    simp only [Bool.and_eq_true, decide_eq_true_eq, List.all_eq_true]
    exact ⟨hw'.1.2, fun b hb => (hin b hb).1⟩
  have hm := swapWord_map hok hx hy
  have hin2 : wordIn (swapAlpha al x y) (swapWord w x y) = true := by
    rw [hm]
    unfold wordIn
    simp only [Bool.and_eq_true, decide_eq_true_eq, List.length_map, List.all_eq_true, List.mem_map]
    refine ⟨⟨swapAlpha_alpha ha hx hy, hw'.1.2⟩, ?_⟩
    rintro b ⟨b0, hb0, rfl⟩
    obtain ⟨h1, h2⟩ := hin b0 hb0
    unfold inB
    rw [swapB_ok h1 hx hy, swapB_ltr h1 hx hy, swapAlpha_bit ha hx hy (isLet_swap h1 hx hy), swapI_swapI, h2]
    rfl
  unfold statesAfter
  rw [swap_valid h hx hy, h, hw, hin2]
  simp only [Bool.and_self, if_true]
  rw [hm, List.length_map]
  rw [saGo_same (l := l.reverse) (w := w) (by rw [List.length_map])]
  intro i hi s
  have hg : (w.map (swapB x y)).getD i 0 = swapB x y (w.getD i 0) := by
    simp [List.getD_eq_getElem?_getD, hi]
  have hb : w.getD i 0 ∈ w := by rw [List.getD_eq_getElem?_getD, List.getElem?_eq_getElem hi]; exact List.getElem_mem hi
  rw [hg]
  unfold stepL
  rw [swapB_ltr (hin _ hb).1 hx hy]
  have : (fun k => mvAt (sortE (l.map (swapE x y))).reverse (k * 6 + (swapI (ltr (w.getD i 0)) x y).toNat)) = fun k => mvAt l.reverse (k * 6 + (ltr (w.getD i 0)).toNat) := by
    funext k
    exact swap_mv h hx hy (hin _ hb).1 k
  rw [this]

end Ev
end Go.Proofs.YtojaohcpgelhmaaDoor
end

/-!
  The words of an alphabet, counted.
-/
section
set_option linter.unusedSimpArgs false
set_option linter.unusedVariables false
set_option maxRecDepth 8000
set_option pp.maxSteps 6000
set_option maxHeartbeats 4000000
namespace Go.Proofs.YtojaohcpgelhmaaDoor
namespace Ev

/-! ### bytes turned round -/

/-- Two places change their values. -/
def swp (l : List UInt8) (i j : Nat) : List UInt8 := (l.set i (l.getD j 0)).set j (l.getD i 0)

theorem swp_len (l : List UInt8) (i j : Nat) : (swp l i j).length = l.length := by simp [swp]

theorem swp_mem {l : List UInt8} {i j : Nat} (hi : i < l.length) (hj : j < l.length) {b : UInt8} (h : b ∈ swp l i j) : b ∈ l := by
  unfold swp at h
  have key : ∀ {l' : List UInt8} {k : Nat} {v b : UInt8}, b ∈ l'.set k v → b ∈ l' ∨ b = v := fun h => List.mem_or_eq_of_mem_set h
  have at' : ∀ {k : Nat}, k < l.length → l.getD k 0 ∈ l := fun hk => by
    rw [List.getD_eq_getElem?_getD, List.getElem?_eq_getElem hk]; exact List.getElem_mem hk
  rcases key h with h | h
  · rcases key h with h | h
    · exact h
    · rw [h]; exact at' hj
  · rw [h]; exact at' hi

def revG : Nat → Int → Int → List UInt8 → Int × Int × List UInt8
  | 0, i, j, l => (i, j, l)
  | q + 1, i, j, l => if i < j then revG q (i + 1) (j - 1) (swp l i.toNat j.toNat) else (i, j, l)

theorem revG_props : ∀ (q : Nat) (i j : Int) (l : List UInt8), 0 ≤ i → j < l.length → (revG q i j l).2.2.length = l.length ∧ ∀ b ∈ (revG q i j l).2.2, b ∈ l
  | 0, i, j, l, _, _ => ⟨rfl, fun b h => h⟩
  | q + 1, i, j, l, h0, h1 => by
    unfold revG
    split
    · rename_i hlt
      have ih := revG_props q (i + 1) (j - 1) (swp l i.toNat j.toNat) (by omega) (by rw [swp_len]; omega)
      rw [swp_len] at ih
      exact ⟨ih.1, fun b hb => swp_mem (by omega) (by omega) (ih.2 b hb)⟩
    · exact ⟨rfl, fun b h => h⟩

/-- A byte is written, in a region that draws its order. -/
theorem st_memb {call : CallF} {thaw : List Nat} {dst : Option Tmp} {x y : Operand} {g k : Nat} {l : List UInt8} {b : UInt8} (hk : k < l.length) : memD env call thaw dst (.store 5 x y) [.arr (bytesL l) 1 g] [.ptr 0 g k, .d (.int .u8 (b.toNat : Int))] = some (.d .undef, [.arr (bytesL (l.set k b)) 1 g], { ids := [0], ro := false, wr := [0] }) := by
  have hst := st_byte0 (h := []) (g := g) (e := 1) (b := b) hk
  have e1 : reach fuelR [O.arr (bytesL l) 1 g] (idsL [.ptr 0 g k, .d (.int .u8 (b.toNat : Int))]) [] = [0] := rfl
  have e2 : pack [O.arr (bytesL l) 1 g] [0] = [O.arr (bytesL l) 1 g] := rfl
  have e3 : mapAs (place [0]) [.ptr 0 g k, .d (.int .u8 (b.toNat : Int))] = [.ptr 0 g k, .d (.int .u8 (b.toNat : Int))] := rfl
  unfold memD
  rw [e1]
  simp only [box]
  rw [e2, e3]
  simp only [evOp, asOper, two, hst, Option.map_some]
  rfl

theorem loop_rev {R : Type} {L n g : Nat} {k : Exit → List A → H → Option R} : ∀ (q : Nat) (i j : Int) (m : Nat) (l : List UInt8) (len : Nat) (h0 : 0 ≤ i) (hj : j < l.length) (hq : j - i < q) (hm : q < m) (hl : len = l.length) (hs : l.length ≤ 50000) (hj0 : -1 ≤ j),
    kLoop env (evCall env L n) L 1 [] (true :: false :: true :: true :: false :: false :: false :: false :: false :: false :: false :: false :: false :: false :: false :: false :: false :: false :: false :: false :: false :: false :: false :: false :: false :: false :: false :: false :: []) (lp_slices_Reverse_byte_byte 0) (false :: true :: false :: false :: true :: true :: true :: true :: true :: true :: true :: true :: true :: true :: true :: true :: true :: true :: true :: true :: true :: true :: true :: true :: true :: true :: true :: true :: []) m (.sl 0 g 0 len :: .junk :: .d (.int .i64 i) :: .d (.int .i64 j) :: .junk :: .junk :: .junk :: .junk :: .junk :: .junk :: .junk :: .junk :: .junk :: .junk :: .junk :: .junk :: .junk :: .junk :: .junk :: .junk :: .junk :: .junk :: .junk :: .junk :: .junk :: .junk :: .junk :: .junk :: []) [.arr (bytesL l) 1 g] k
    = k (.exit 0) (.sl 0 g 0 len :: .junk :: .d (.int .i64 (((revG q i j l).1))) :: .d (.int .i64 (((revG q i j l).2.1))) :: .junk :: .junk :: .junk :: .junk :: .junk :: .junk :: .junk :: .junk :: .junk :: .junk :: .junk :: .junk :: .junk :: .junk :: .junk :: .junk :: .junk :: .junk :: .junk :: .junk :: .junk :: .junk :: .junk :: .junk :: []) [.arr (bytesL (revG q i j l).2.2) 1 g] := by
  intro q
  induction q with
  | zero =>
    intro i j m l len h0 hj hq hm hl hs hj0
    obtain ⟨m, rfl⟩ : ∃ q, m = q + 1 := ⟨m - 1, by omega⟩
    have hc : ¬ i < j := by omega
    rw [step_slices_Reverse_byte_byte_0]
    simp only [S_slices_Reverse_byte_byte_0, Tryd.f38, slimF, slimL, lpOf, codeOf, Option.getD_some, slim, loops, List.length_nil, Nat.add_zero, Nat.zero_add, slimO, slimG, List.map_cons, List.map_nil, List.getElem?_cons_zero, List.getElem?_cons_succ, Option.bind_some, Bool.false_eq_true, if_false, if_true, List.length_cons, List.replicate, List.cons_append, List.nil_append, List.append_nil, Nat.reduceAdd, Nat.reduceSub, List.getD_cons_zero, List.getD_cons_succ]
    simp -implicitDefEqProofs (maxSteps := 2000000) (disch := first | assumption | (refine Shut.mk ?_; kernel_rfl) | omega | (simp only [List.getElem?_cons_zero, List.getElem?_cons_succ]; done) | (simp only [List.length_append, List.length_cons, List.length_nil, List.length_set, List.length_replicate, List.length_map, List.length_take, List.length_drop] <;> omega) | (fail)) only [↓WD, ↓kAsg, ↓kRet, ↓reduceIte, ↓clash_free, ↓WDD, ↓kOpD_callv, WK, thawAt, evPick, aPut, leavesBody, outA, outS, outSs, idsA, idsL, mapA, calmAs, calmA, calmSl, calmPt, genOf, calmH, calmFrom, calmO, mapAs, maskB, isUndef, tidy, Int.reduceLT, Int.reduceLE, Int.reduceEq, Int.reduceNe, Int.reduceNeg, Int.reduceAdd, Int.reduceSub, Int.reduceMul, Int.reduceToNat, Nat.reduceAdd, Nat.reduceSub, aBuiltin, aAppend, aAppend0, aAppendV, isVec, bears, emptyArr, sliceAs, keeps, aBuildVec, aMakeVec, sliceCells, aBuildSlice, aIndexAddr, aLoad, runOf, ofCells, TY, LB, aLen, withInt, fillA, frzL, listWith, frz, frz0, deep, cellsA, setRun, okCell, List.replicate, notJunk, Nat.reduceMul, Nat.reduceLeDiff, Nat.reducePow, Nat.reduceBEq, boxIds, aResults, aResult, outAs, tupA, evNilCheck, aMove, MD, opds, evOp, asOper, one, two, evCallee, evAssign, aNew, evSlice, evField, evExtract, evFunc, pureOp, isCall, readOp, List.range', back, putBack, fuelR, closed, aStore, thawCells, place, pack, mapO, Nat.reduceEqDiff, Nat.reduceLT, maxNeed, i64_id, frzA, frzAs, memD, lentA, footC, hc]
    rfl
  | succ q ih =>
    intro i j m l len h0 hj hq hm hl hs hj0
    obtain ⟨m, rfl⟩ : ∃ q, m = q + 1 := ⟨m - 1, by omega⟩
    by_cases hc : i < j
    · have hi1 : i < (len : Int) := by omega
      have hj1 : j < (len : Int) := by omega
      have hi2 : i.toNat < l.length := by omega
      have hj2 : j.toNat < l.length := by omega
      have hj3 : j.toNat < (l.set i.toNat (l.getD j.toNat 0)).length := by rw [List.length_set]; exact hj2
      have hj4 : (0 : Int) ≤ j := by omega
      have ih' := ih (i + 1) (j - 1) m (swp l i.toNat j.toNat) len (by omega) (by rw [swp_len]; omega) (by omega) (by omega) (by rw [swp_len]; exact hl) (by rw [swp_len]; exact hs) (by omega)
      unfold swp at ih'
      rw [step_slices_Reverse_byte_byte_0]
      simp only [S_slices_Reverse_byte_byte_0, Tryd.f38, slimF, slimL, lpOf, codeOf, Option.getD_some, slim, loops, List.length_nil, Nat.add_zero, Nat.zero_add, slimO, slimG, List.map_cons, List.map_nil, List.getElem?_cons_zero, List.getElem?_cons_succ, Option.bind_some, Bool.false_eq_true, if_false, if_true, List.length_cons, List.replicate, List.cons_append, List.nil_append, List.append_nil, Nat.reduceAdd, Nat.reduceSub, List.getD_cons_zero, List.getD_cons_succ]
      simp -implicitDefEqProofs (maxSteps := 2000000) (disch := first | assumption | (refine Shut.mk ?_; kernel_rfl) | omega | (simp only [List.getElem?_cons_zero, List.getElem?_cons_succ]; done) | (simp only [List.length_append, List.length_cons, List.length_nil, List.length_set, List.length_replicate, List.length_map, List.length_take, List.length_drop] <;> omega) | (fail)) only [↓WD, ↓kAsg, ↓kRet, ↓reduceIte, ↓clash_free, ↓WDD, ↓kOpD_callv, WK, thawAt, evPick, aPut, leavesBody, outA, outS, outSs, idsA, idsL, mapA, calmAs, calmA, calmSl, calmPt, genOf, calmH, calmFrom, calmO, mapAs, maskB, isUndef, tidy, Int.reduceLT, Int.reduceLE, Int.reduceEq, Int.reduceNe, Int.reduceNeg, Int.reduceAdd, Int.reduceSub, Int.reduceMul, Int.reduceToNat, Nat.reduceAdd, Nat.reduceSub, aBuiltin, aAppend, aAppend0, aAppendV, isVec, bears, emptyArr, sliceAs, keeps, aBuildVec, aMakeVec, sliceCells, aBuildSlice, aIndexAddr, aLoad, runOf, ofCells, TY, LB, aLen, withInt, fillA, frzL, listWith, frz, frz0, deep, cellsA, setRun, okCell, List.replicate, notJunk, Nat.reduceMul, Nat.reduceLeDiff, Nat.reducePow, Nat.reduceBEq, boxIds, aResults, aResult, outAs, tupA, evNilCheck, aMove, MD, opds, evOp, asOper, one, two, evCallee, evAssign, aNew, evSlice, evField, evExtract, evFunc, pureOp, isCall, readOp, List.range', back, putBack, fuelR, closed, aStore, thawCells, place, pack, mapO, Nat.reduceEqDiff, Nat.reduceLT, maxNeed, i64_id, frzA, frzAs, memD, lentA, footC, hc, u_bytes, c_uint8, bytesL_head, ↓st_memb, ↓ih']
      simp only [revG, hc, if_true, swp]
    · rw [step_slices_Reverse_byte_byte_0]
      simp only [S_slices_Reverse_byte_byte_0, Tryd.f38, slimF, slimL, lpOf, codeOf, Option.getD_some, slim, loops, List.length_nil, Nat.add_zero, Nat.zero_add, slimO, slimG, List.map_cons, List.map_nil, List.getElem?_cons_zero, List.getElem?_cons_succ, Option.bind_some, Bool.false_eq_true, if_false, if_true, List.length_cons, List.replicate, List.cons_append, List.nil_append, List.append_nil, Nat.reduceAdd, Nat.reduceSub, List.getD_cons_zero, List.getD_cons_succ]
      simp -implicitDefEqProofs (maxSteps := 2000000) (disch := first | assumption | (refine Shut.mk ?_; kernel_rfl) | omega | (simp only [List.getElem?_cons_zero, List.getElem?_cons_succ]; done) | (simp only [List.length_append, List.length_cons, List.length_nil, List.length_set, List.length_replicate, List.length_map, List.length_take, List.length_drop] <;> omega) | (fail)) only [↓WD, ↓kAsg, ↓kRet, ↓reduceIte, ↓clash_free, ↓WDD, ↓kOpD_callv, WK, thawAt, evPick, aPut, leavesBody, outA, outS, outSs, idsA, idsL, mapA, calmAs, calmA, calmSl, calmPt, genOf, calmH, calmFrom, calmO, mapAs, maskB, isUndef, tidy, Int.reduceLT, Int.reduceLE, Int.reduceEq, Int.reduceNe, Int.reduceNeg, Int.reduceAdd, Int.reduceSub, Int.reduceMul, Int.reduceToNat, Nat.reduceAdd, Nat.reduceSub, aBuiltin, aAppend, aAppend0, aAppendV, isVec, bears, emptyArr, sliceAs, keeps, aBuildVec, aMakeVec, sliceCells, aBuildSlice, aIndexAddr, aLoad, runOf, ofCells, TY, LB, aLen, withInt, fillA, frzL, listWith, frz, frz0, deep, cellsA, setRun, okCell, List.replicate, notJunk, Nat.reduceMul, Nat.reduceLeDiff, Nat.reducePow, Nat.reduceBEq, boxIds, aResults, aResult, outAs, tupA, evNilCheck, aMove, MD, opds, evOp, asOper, one, two, evCallee, evAssign, aNew, evSlice, evField, evExtract, evFunc, pureOp, isCall, readOp, List.range', back, putBack, fuelR, closed, aStore, thawCells, place, pack, mapO, Nat.reduceEqDiff, Nat.reduceLT, maxNeed, i64_id, frzA, frzAs, memD, lentA, footC, hc]
      simp only [revG, hc, if_false]

theorem ev_rev {L n g : Nat} (hn : 1 ≤ n) (l : List UInt8) (hs : l.length ≤ 50000) (hL : 2 ^ 60 ≤ L) : evCall env L n 38 [.sl 0 g 0 l.length] [.arr (bytesL l) 1 g] = some (.tup [], [.arr (bytesL (revG (l.length + 1) 0 ((l.length : Int) - 1) l).2.2) 1 g]) := by
  have lp : ∀ {R : Type} {n : Nat} {k : Exit → List A → H → Option R}, kLoop env (evCall env L n) L 1 [] (true :: false :: true :: true :: false :: false :: false :: false :: false :: false :: false :: false :: false :: false :: false :: false :: false :: false :: false :: false :: false :: false :: false :: false :: false :: false :: false :: false :: []) (lp_slices_Reverse_byte_byte 0) (false :: true :: false :: false :: true :: true :: true :: true :: true :: true :: true :: true :: true :: true :: true :: true :: true :: true :: true :: true :: true :: true :: true :: true :: true :: true :: true :: true :: []) L (.sl 0 g 0 l.length :: .junk :: .d (.int .i64 0) :: .d (.int .i64 (((l.length : Int) - 1))) :: .junk :: .junk :: .junk :: .junk :: .junk :: .junk :: .junk :: .junk :: .junk :: .junk :: .junk :: .junk :: .junk :: .junk :: .junk :: .junk :: .junk :: .junk :: .junk :: .junk :: .junk :: .junk :: .junk :: .junk :: []) [.arr (bytesL l) 1 g] k
    = k (.exit 0) (.sl 0 g 0 l.length :: .junk :: .d (.int .i64 (((revG (l.length + 1) 0 ((l.length : Int) - 1) l).1))) :: .d (.int .i64 (((revG (l.length + 1) 0 ((l.length : Int) - 1) l).2.1))) :: .junk :: .junk :: .junk :: .junk :: .junk :: .junk :: .junk :: .junk :: .junk :: .junk :: .junk :: .junk :: .junk :: .junk :: .junk :: .junk :: .junk :: .junk :: .junk :: .junk :: .junk :: .junk :: .junk :: .junk :: []) [.arr (bytesL (revG (l.length + 1) 0 ((l.length : Int) - 1) l).2.2) 1 g] :=
    fun {R n k} => loop_rev (l.length + 1) 0 _ L l l.length (Int.le_refl _) (by omega) (by omega) (by omega) rfl hs (by omega)
  have loop_a := @lp
  obtain ⟨n, rfl⟩ : ∃ m, n = m + 1 := ⟨n - 1, by omega⟩
  rw [fn_slices_Reverse_byte_byte]
  simp only [S_slices_Reverse_byte_byte, Tryd.f38, slimF, slimL, lpOf, codeOf, Option.getD_some, slim, loops, List.length_nil, Nat.add_zero, Nat.zero_add, slimO, slimG, List.map_cons, List.map_nil, List.getElem?_cons_zero, List.getElem?_cons_succ, Option.bind_some, Bool.false_eq_true, if_false, if_true, List.length_cons, List.replicate, List.cons_append, List.nil_append, List.append_nil, Nat.reduceAdd, Nat.reduceSub, List.getD_cons_zero, List.getD_cons_succ]
  simp -implicitDefEqProofs (maxSteps := 2000000) (disch := first | assumption | (refine Shut.mk ?_; kernel_rfl) | omega | (simp only [List.getElem?_cons_zero, List.getElem?_cons_succ]; done) | (simp only [List.length_append, List.length_cons, List.length_nil, List.length_set, List.length_replicate, List.length_map, List.length_take, List.length_drop] <;> omega) | (fail)) only [↓WD, ↓kAsg, ↓kRet, ↓reduceIte, ↓clash_free, ↓WDD, ↓kOpD_callv, WK, thawAt, evPick, aPut, leavesBody, outA, outS, outSs, idsA, idsL, mapA, calmAs, calmA, calmSl, calmPt, genOf, calmH, calmFrom, calmO, mapAs, maskB, isUndef, tidy, Int.reduceLT, Int.reduceLE, Int.reduceEq, Int.reduceNe, Int.reduceNeg, Int.reduceAdd, Int.reduceSub, Int.reduceMul, Int.reduceToNat, Nat.reduceAdd, Nat.reduceSub, aBuiltin, aAppend, aAppend0, aAppendV, isVec, bears, emptyArr, sliceAs, keeps, aBuildVec, aMakeVec, sliceCells, aBuildSlice, aIndexAddr, aLoad, runOf, ofCells, TY, LB, aLen, withInt, fillA, frzL, listWith, frz, frz0, deep, cellsA, setRun, okCell, List.replicate, notJunk, Nat.reduceMul, Nat.reduceLeDiff, Nat.reducePow, Nat.reduceBEq, boxIds, aResults, aResult, outAs, tupA, evNilCheck, aMove, MD, opds, evOp, asOper, one, two, evCallee, evAssign, aNew, evSlice, evField, evExtract, evFunc, pureOp, isCall, readOp, List.range', back, putBack, fuelR, closed, aStore, thawCells, place, pack, mapO, Nat.reduceEqDiff, Nat.reduceLT, maxNeed, i64_id, frzA, frzAs, memD, lentA, footC, ↓loop_a]

theorem kc_rev {R : Type} {L n id g : Nat} {hq : H} {k : A → H → Option R} (hn : 1 ≤ n) (l : List UInt8) (hi : hq[id]? = some (.arr (bytesL l) 1 g)) (hs : l.length ≤ 50000) (hL : 2 ^ 60 ≤ L) : kCall env (evCall env L n) hq 38 [.sl id g 0 l.length] k = k (.tup []) (hq.set id (.arr (bytesL (revG (l.length + 1) 0 ((l.length : Int) - 1) l).2.2) 1 g)) :=
  kCall_ref hi (by simp [idsL, idsA]) mode_slices_Reverse_byte_byte rfl (by simpa [mapAs, mapA, place] using ev_rev hn l hs hL)

/-! ### counting -/

/-- The letters of the word with a number, the last first. -/
def waGo (ls : List Int) : Nat → Int → List UInt8 → Bool × Int × List UInt8
  | 0, n, o => (false, n, o)
  | j + 1, n, o => if 0 < n then (if ls.length = 0 ∨ o.length = 7 then (false, n, o) else waGo ls j ((n - 1) / ls.length) (o ++ [byteI (ls.getD ((n - 1) % ls.length).toNat 0)])) else (true, n, o)

theorem waGo_mem {ls : List Int} : ∀ (j : Nat) (n : Int) (o : List UInt8), o.length ≤ 7 → (waGo ls j n o).2.2.length ≤ 7 ∧ ∀ b ∈ (waGo ls j n o).2.2, b ∈ o ∨ ∃ l ∈ ls, b = byteI l
  | 0, n, o, ho => ⟨ho, fun b h => .inl h⟩
  | j + 1, n, o, ho => by
    unfold waGo
    split
    · split
      · exact ⟨ho, fun b h => .inl h⟩
      · rename_i hlt hne
        have hpos : 0 < ls.length := by omega
        have hm : ((n - 1) % (ls.length : Int)).toNat < ls.length := by
          have h1 := Int.emod_nonneg (n - 1) (b := (ls.length : Int)) (by omega)
          have h2 := Int.emod_lt_of_pos (n - 1) (b := (ls.length : Int)) (by omega)
          omega
        have ih := waGo_mem (ls := ls) j ((n - 1) / ls.length) (o ++ [byteI (ls.getD ((n - 1) % ls.length).toNat 0)]) (by simp; omega)
        refine ⟨ih.1, fun b hb => ?_⟩
        rcases ih.2 b hb with h | h
        · rcases List.mem_append.1 h with h | h
          · exact .inl h
          · refine .inr ⟨_, ?_, List.mem_singleton.1 h⟩
            rw [List.getD_eq_getElem?_getD, List.getElem?_eq_getElem hm]
            exact List.getElem_mem hm
        · exact .inr h
    · exact ⟨ho, fun b h => .inl h⟩

/-- The word with a number, and whether there is one. -/
def wordAt (n al : Int) : List UInt8 × Bool :=
  if isAlpha al && decide (0 ≤ n) then
    (if (waGo (letters al) 8 n []).1 then ((revG ((waGo (letters al) 8 n []).2.2.length + 1) 0 (((waGo (letters al) 8 n []).2.2.length : Int) - 1) (waGo (letters al) 8 n []).2.2).2.2, true) else ([], false))
  else ([], false)

theorem wordAt_in {n al : Int} (h : (wordAt n al).2 = true) : wordIn al (wordAt n al).1 = true := by
  unfold wordAt at h ⊢
  split at h
  · rename_i hc
    rw [if_pos hc]
    split at h
    · rename_i hw
      rw [if_pos hw]
      simp only [Bool.and_eq_true] at hc
      obtain ⟨h1, h2⟩ := waGo_mem (ls := letters al) 8 n [] (by simp)
      obtain ⟨h3, h4⟩ := revG_props ((waGo (letters al) 8 n []).2.2.length + 1) 0 (((waGo (letters al) 8 n []).2.2.length : Int) - 1) (waGo (letters al) 8 n []).2.2 (Int.le_refl _) (by omega)
      unfold wordIn
      simp only [Bool.and_eq_true, decide_eq_true_eq, List.all_eq_true]
      refine ⟨⟨hc.1, by omega⟩, fun b hb => ?_⟩
      rcases h2 b (h4 b hb) with h | ⟨l, hl, rfl⟩
      · cases h
      · unfold letters at hl
        rw [List.mem_filter] at hl
        have hl6 : 0 ≤ l ∧ l ≤ 5 := by
          have := hl.1
          simp only [List.mem_cons, List.not_mem_nil, or_false] at this
          omega
        unfold inB okB
        rw [ltr_byteI hl6.1 hl6.2, hl.2]
        simp [isLet]
        omega
    · cases h
  · cases h

theorem loop_i_WordAt {R : Type} {L n : Nat} (hn : 1 ≤ n) {ls : List Int} (hls : ls.length ≤ 6) (hlv : ∀ l ∈ ls, 0 ≤ l ∧ l ≤ 5) {k : Exit → List A → H → Option R} : ∀ (j : Nat) (c : Int) (m : Nat) (o : List UInt8) (len : Nat) (hl : len = o.length) (ho : o.length + j = 8) (hj : 1 ≤ j) (hm : j < m) (hc0 : 0 ≤ c) (hc1 : c ≤ 1000000),
    kLoop env (evCall env L n) L 0 [0, 0, 0, 0, 0, 0, 0, 2] (true :: false :: false :: false :: true :: true :: true :: true :: false :: false :: false :: false :: false :: false :: false :: false :: false :: false :: false :: false :: false :: false :: false :: false :: false :: false :: false :: false :: false :: false :: false :: false :: false :: false :: false :: false :: false :: false :: false :: false :: false :: false :: false :: false :: false :: false :: false :: false :: []) (lp_i_WordAt 0) (false :: true :: true :: true :: false :: false :: false :: false :: true :: true :: true :: true :: true :: true :: true :: true :: true :: true :: true :: true :: true :: true :: true :: true :: true :: true :: true :: true :: true :: true :: true :: true :: true :: true :: true :: true :: true :: true :: true :: true :: true :: true :: true :: true :: true :: true :: true :: true :: []) m (.d (.int .i64 c) :: .junk :: .junk :: .junk :: .d (.str ([])) :: .d (.bool false) :: .d (.ivs ls.length (ints ls)) :: .sl 0 0 0 len :: .junk :: .junk :: .junk :: .junk :: .junk :: .junk :: .junk :: .junk :: .junk :: .junk :: .junk :: .junk :: .junk :: .junk :: .junk :: .junk :: .junk :: .junk :: .junk :: .junk :: .junk :: .junk :: .junk :: .junk :: .junk :: .junk :: .junk :: .junk :: .junk :: .junk :: .junk :: .junk :: .junk :: .junk :: .junk :: .junk :: .junk :: .junk :: .junk :: .junk :: []) [.arr (bytesL o) 1 0] k
    = if (waGo ls j c o).1 then k (.exit 0) (.d (.int .i64 (((waGo ls j c o).2.1))) :: .junk :: .junk :: .junk :: .d (.str ([])) :: .d (.bool false) :: .d (.ivs ls.length (ints ls)) :: .sl 0 0 0 (waGo ls j c o).2.2.length :: .junk :: .junk :: .junk :: .junk :: .junk :: .junk :: .junk :: .junk :: .junk :: .junk :: .junk :: .junk :: .junk :: .junk :: .junk :: .junk :: .junk :: .junk :: .junk :: .junk :: .junk :: .junk :: .junk :: .junk :: .junk :: .junk :: .junk :: .junk :: .junk :: .junk :: .junk :: .junk :: .junk :: .junk :: .junk :: .junk :: .junk :: .junk :: .junk :: .junk :: []) [.arr (bytesL (waGo ls j c o).2.2) 1 0] else k .ret (.d (.int .i64 (((waGo ls j c o).2.1))) :: .junk :: .junk :: .junk :: .d (.str ([])) :: .d (.bool false) :: .d (.ivs ls.length (ints ls)) :: .sl 0 0 0 (waGo ls j c o).2.2.length :: .junk :: .junk :: .junk :: .junk :: .junk :: .junk :: .junk :: .junk :: .junk :: .junk :: .junk :: .junk :: .junk :: .junk :: .junk :: .junk :: .junk :: .junk :: .junk :: .junk :: .junk :: .junk :: .junk :: .junk :: .junk :: .junk :: .junk :: .junk :: .junk :: .junk :: .junk :: .junk :: .junk :: .junk :: .junk :: .junk :: .junk :: .junk :: .junk :: .junk :: []) [.arr (bytesL (waGo ls j c o).2.2) 1 0] := by
  intro j
  induction j with
  | zero => intro c m o len hl ho hj; omega
  | succ j ih =>
    intro c m o len hl ho hj hm hc0 hc1
    obtain ⟨m, rfl⟩ : ∃ q, m = q + 1 := ⟨m - 1, by omega⟩
    subst hl
    by_cases h1 : 0 < c
    · by_cases h2 : ls.length = 0
      · have h2' : (ls.length : Int) = 0 := by omega
        rw [step_i_WordAt_0]
        simp only [S_i_WordAt_0, Tryd.f10, slimF, slimL, lpOf, codeOf, Option.getD_some, slim, loops, List.length_nil, Nat.add_zero, Nat.zero_add, slimO, slimG, List.map_cons, List.map_nil, List.getElem?_cons_zero, List.getElem?_cons_succ, Option.bind_some, Bool.false_eq_true, if_false, if_true, List.length_cons, List.replicate, List.cons_append, List.nil_append, List.append_nil, Nat.reduceAdd, Nat.reduceSub, List.getD_cons_zero, List.getD_cons_succ]
        simp -implicitDefEqProofs (maxSteps := 2000000) (disch := first | assumption | (refine Shut.mk ?_; kernel_rfl) | omega | (simp only [List.getElem?_cons_zero, List.getElem?_cons_succ]; done) | (simp only [List.length_append, List.length_cons, List.length_nil, List.length_set, List.length_replicate, List.length_map, List.length_take, List.length_drop] <;> omega) | (fail)) only [↓WD, ↓kAsg, ↓kRet, ↓reduceIte, ↓clash_free, ↓WDD, ↓kOpD_callv, WK, thawAt, evPick, aPut, leavesBody, outA, outS, outSs, idsA, idsL, mapA, calmAs, calmA, calmSl, calmPt, genOf, calmH, calmFrom, calmO, mapAs, maskB, isUndef, tidy, Int.reduceLT, Int.reduceLE, Int.reduceEq, Int.reduceNe, Int.reduceNeg, Int.reduceAdd, Int.reduceSub, Int.reduceMul, Int.reduceToNat, Nat.reduceAdd, Nat.reduceSub, aBuiltin, aAppend, aAppend0, aAppendV, isVec, bears, emptyArr, sliceAs, keeps, aBuildVec, aMakeVec, sliceCells, aBuildSlice, aIndexAddr, aLoad, runOf, ofCells, TY, LB, aLen, withInt, fillA, frzL, listWith, frz, frz0, deep, cellsA, setRun, okCell, List.replicate, notJunk, Nat.reduceMul, Nat.reduceLeDiff, Nat.reducePow, Nat.reduceBEq, boxIds, aResults, aResult, outAs, tupA, evNilCheck, aMove, MD, opds, evOp, asOper, one, two, evCallee, evAssign, aNew, evSlice, evField, evExtract, evFunc, pureOp, isCall, readOp, List.range', back, putBack, fuelR, closed, aStore, thawCells, place, pack, mapO, Nat.reduceEqDiff, Nat.reduceLT, maxNeed, i64_id, frzA, frzAs, memD, lentA, footC, ↓kc_i_isAlphabet, ↓kc_i_lettersOf, ↓kc_i_letterByte, h1, h2']
        simp only [waGo, h1, h2, if_true, true_or, Bool.false_eq_true, if_false]
      · have h2' : ¬ (ls.length : Int) = 0 := by omega
        by_cases h3 : o.length = 7
        · have h3' : (o.length : Int) = 7 := by omega
          rw [step_i_WordAt_0]
          simp only [S_i_WordAt_0, Tryd.f10, slimF, slimL, lpOf, codeOf, Option.getD_some, slim, loops, List.length_nil, Nat.add_zero, Nat.zero_add, slimO, slimG, List.map_cons, List.map_nil, List.getElem?_cons_zero, List.getElem?_cons_succ, Option.bind_some, Bool.false_eq_true, if_false, if_true, List.length_cons, List.replicate, List.cons_append, List.nil_append, List.append_nil, Nat.reduceAdd, Nat.reduceSub, List.getD_cons_zero, List.getD_cons_succ]
          simp -implicitDefEqProofs (maxSteps := 2000000) (disch := first | assumption | (refine Shut.mk ?_; kernel_rfl) | omega | (simp only [List.getElem?_cons_zero, List.getElem?_cons_succ]; done) | (simp only [List.length_append, List.length_cons, List.length_nil, List.length_set, List.length_replicate, List.length_map, List.length_take, List.length_drop] <;> omega) | (fail)) only [↓WD, ↓kAsg, ↓kRet, ↓reduceIte, ↓clash_free, ↓WDD, ↓kOpD_callv, WK, thawAt, evPick, aPut, leavesBody, outA, outS, outSs, idsA, idsL, mapA, calmAs, calmA, calmSl, calmPt, genOf, calmH, calmFrom, calmO, mapAs, maskB, isUndef, tidy, Int.reduceLT, Int.reduceLE, Int.reduceEq, Int.reduceNe, Int.reduceNeg, Int.reduceAdd, Int.reduceSub, Int.reduceMul, Int.reduceToNat, Nat.reduceAdd, Nat.reduceSub, aBuiltin, aAppend, aAppend0, aAppendV, isVec, bears, emptyArr, sliceAs, keeps, aBuildVec, aMakeVec, sliceCells, aBuildSlice, aIndexAddr, aLoad, runOf, ofCells, TY, LB, aLen, withInt, fillA, frzL, listWith, frz, frz0, deep, cellsA, setRun, okCell, List.replicate, notJunk, Nat.reduceMul, Nat.reduceLeDiff, Nat.reducePow, Nat.reduceBEq, boxIds, aResults, aResult, outAs, tupA, evNilCheck, aMove, MD, opds, evOp, asOper, one, two, evCallee, evAssign, aNew, evSlice, evField, evExtract, evFunc, pureOp, isCall, readOp, List.range', back, putBack, fuelR, closed, aStore, thawCells, place, pack, mapO, Nat.reduceEqDiff, Nat.reduceLT, maxNeed, i64_id, frzA, frzAs, memD, lentA, footC, ↓kc_i_isAlphabet, ↓kc_i_lettersOf, ↓kc_i_letterByte, h1, h2', h3']
          simp only [waGo, h1, h2, h3, if_true, or_true, Bool.false_eq_true, if_false]
        · have h3' : ¬ (o.length : Int) = 7 := by omega
          have hpos : 0 < (ls.length : Int) := by omega
          have q1 := Int.emod_nonneg (c - 1) (b := (ls.length : Int)) (by omega)
          have q2 := Int.emod_lt_of_pos (c - 1) hpos
          have q3 : (c - 1).tmod (ls.length : Int) = (c - 1) % ls.length := Int.tmod_eq_emod_of_nonneg (by omega)
          have q4 : (c - 1).tdiv (ls.length : Int) = (c - 1) / ls.length := Int.tdiv_eq_ediv_of_nonneg (by omega)
          have q5 : 0 ≤ (c - 1) / (ls.length : Int) := Int.ediv_nonneg (by omega) (by omega)
          have q6 : (c - 1) / (ls.length : Int) ≤ c - 1 := Int.ediv_le_self _ (by omega)
          have q7 : IntKind.i64.wrap ((c - 1) / (ls.length : Int)) = (c - 1) / ls.length := i64_id (by omega) (by omega)
          have hk : ((c - 1) % (ls.length : Int)).toNat < ls.length := by omega
          have hmem : ls.getD ((c - 1) % (ls.length : Int)).toNat 0 ∈ ls := by
            rw [List.getD_eq_getElem?_getD, List.getElem?_eq_getElem hk]; exact List.getElem_mem hk
          have hb := hlv _ hmem
          have hb0 := hb.1
          have hb5 := hb.2
          have hlen : o.length + 1 = (o ++ [byteI (ls.getD ((c - 1) % (ls.length : Int)).toNat 0)]).length := by simp
          have ih' := ih ((c - 1) / ls.length) m (o ++ [byteI (ls.getD ((c - 1) % ls.length).toNat 0)]) (o.length + 1) hlen (by simp; omega) (by omega) (by omega) q5 (by omega)
          clear ih hmem hb
          rw [step_i_WordAt_0]
          simp only [S_i_WordAt_0, Tryd.f10, slimF, slimL, lpOf, codeOf, Option.getD_some, slim, loops, List.length_nil, Nat.add_zero, Nat.zero_add, slimO, slimG, List.map_cons, List.map_nil, List.getElem?_cons_zero, List.getElem?_cons_succ, Option.bind_some, Bool.false_eq_true, if_false, if_true, List.length_cons, List.replicate, List.cons_append, List.nil_append, List.append_nil, Nat.reduceAdd, Nat.reduceSub, List.getD_cons_zero, List.getD_cons_succ]
          simp -implicitDefEqProofs (maxSteps := 2000000) (disch := first | assumption | (refine Shut.mk ?_; kernel_rfl) | omega | (simp only [List.getElem?_cons_zero, List.getElem?_cons_succ]; done) | (simp only [List.length_append, List.length_cons, List.length_nil, List.length_set, List.length_replicate, List.length_map, List.length_take, List.length_drop] <;> omega) | (fail)) only [↓WD, ↓kAsg, ↓kRet, ↓reduceIte, ↓clash_free, ↓WDD, ↓kOpD_callv, WK, thawAt, evPick, aPut, leavesBody, outA, outS, outSs, idsA, idsL, mapA, calmAs, calmA, calmSl, calmPt, genOf, calmH, calmFrom, calmO, mapAs, maskB, isUndef, tidy, Int.reduceLT, Int.reduceLE, Int.reduceEq, Int.reduceNe, Int.reduceNeg, Int.reduceAdd, Int.reduceSub, Int.reduceMul, Int.reduceToNat, Nat.reduceAdd, Nat.reduceSub, aBuiltin, aAppend, aAppend0, aAppendV, isVec, bears, emptyArr, sliceAs, keeps, aBuildVec, aMakeVec, sliceCells, aBuildSlice, aIndexAddr, aLoad, runOf, ofCells, TY, LB, aLen, withInt, fillA, frzL, listWith, frz, frz0, deep, cellsA, setRun, okCell, List.replicate, notJunk, Nat.reduceMul, Nat.reduceLeDiff, Nat.reducePow, Nat.reduceBEq, boxIds, aResults, aResult, outAs, tupA, evNilCheck, aMove, MD, opds, evOp, asOper, one, two, evCallee, evAssign, aNew, evSlice, evField, evExtract, evFunc, pureOp, isCall, readOp, List.range', back, putBack, fuelR, closed, aStore, thawCells, place, pack, mapO, Nat.reduceEqDiff, Nat.reduceLT, maxNeed, i64_id, frzA, frzAs, memD, lentA, footC, ↓kc_i_isAlphabet, ↓kc_i_lettersOf, h1, h2', h3', q3, q4, q7, ↓kc_i_letterByte, ints_head, u_bytes, elemT_bytes, e_uint8, z_uint8, c_uint8, bytesL_length, bytesL_take, bytesL_snoc, ↓ih']
          simp only [waGo, h1, h2, h3, if_true, if_false, or_self]
    · rw [step_i_WordAt_0]
      simp only [S_i_WordAt_0, Tryd.f10, slimF, slimL, lpOf, codeOf, Option.getD_some, slim, loops, List.length_nil, Nat.add_zero, Nat.zero_add, slimO, slimG, List.map_cons, List.map_nil, List.getElem?_cons_zero, List.getElem?_cons_succ, Option.bind_some, Bool.false_eq_true, if_false, if_true, List.length_cons, List.replicate, List.cons_append, List.nil_append, List.append_nil, Nat.reduceAdd, Nat.reduceSub, List.getD_cons_zero, List.getD_cons_succ]
      simp -implicitDefEqProofs (maxSteps := 2000000) (disch := first | assumption | (refine Shut.mk ?_; kernel_rfl) | omega | (simp only [List.getElem?_cons_zero, List.getElem?_cons_succ]; done) | (simp only [List.length_append, List.length_cons, List.length_nil, List.length_set, List.length_replicate, List.length_map, List.length_take, List.length_drop] <;> omega) | (fail)) only [↓WD, ↓kAsg, ↓kRet, ↓reduceIte, ↓clash_free, ↓WDD, ↓kOpD_callv, WK, thawAt, evPick, aPut, leavesBody, outA, outS, outSs, idsA, idsL, mapA, calmAs, calmA, calmSl, calmPt, genOf, calmH, calmFrom, calmO, mapAs, maskB, isUndef, tidy, Int.reduceLT, Int.reduceLE, Int.reduceEq, Int.reduceNe, Int.reduceNeg, Int.reduceAdd, Int.reduceSub, Int.reduceMul, Int.reduceToNat, Nat.reduceAdd, Nat.reduceSub, aBuiltin, aAppend, aAppend0, aAppendV, isVec, bears, emptyArr, sliceAs, keeps, aBuildVec, aMakeVec, sliceCells, aBuildSlice, aIndexAddr, aLoad, runOf, ofCells, TY, LB, aLen, withInt, fillA, frzL, listWith, frz, frz0, deep, cellsA, setRun, okCell, List.replicate, notJunk, Nat.reduceMul, Nat.reduceLeDiff, Nat.reducePow, Nat.reduceBEq, boxIds, aResults, aResult, outAs, tupA, evNilCheck, aMove, MD, opds, evOp, asOper, one, two, evCallee, evAssign, aNew, evSlice, evField, evExtract, evFunc, pureOp, isCall, readOp, List.range', back, putBack, fuelR, closed, aStore, thawCells, place, pack, mapO, Nat.reduceEqDiff, Nat.reduceLT, maxNeed, i64_id, frzA, frzAs, memD, lentA, footC, ↓kc_i_isAlphabet, ↓kc_i_lettersOf, ↓kc_i_letterByte, h1]
      simp only [waGo, h1, if_false, if_true]

theorem letters_let {al : Int} : ∀ l ∈ letters al, 0 ≤ l ∧ l ≤ 5 := by
  intro l hl
  unfold letters at hl
  have := (List.mem_filter.1 hl).1
  simp only [List.mem_cons, List.not_mem_nil, or_false] at this
  omega

theorem letters_le6 (al : Int) : (letters al).length ≤ 6 := by
  unfold letters
  exact Nat.le_trans (List.length_filter_le _ _) (by simp)

theorem ev_i_WordAt {L n : Nat} (hn : 3 ≤ n) (c al : Int) (hc1 : c ≤ 1000000) (hL : 2 ^ 60 ≤ L) : evCall env L n 10 [.d (.int .i64 c), .d (.int .i64 al)] [] = some (.tup [.d (.str (wordAt c al).1), .d (.bool (wordAt c al).2)], []) := by
  unfold wordAt
  cases ha : isAlpha al with
  | false =>
    obtain ⟨n, rfl⟩ : ∃ m, n = m + 1 := ⟨n - 1, by omega⟩
    rw [fn_i_WordAt]
    simp only [S_i_WordAt, Tryd.f10, slimF, slimL, lpOf, codeOf, Option.getD_some, slim, loops, List.length_nil, Nat.add_zero, Nat.zero_add, slimO, slimG, List.map_cons, List.map_nil, List.getElem?_cons_zero, List.getElem?_cons_succ, Option.bind_some, Bool.false_eq_true, if_false, if_true, List.length_cons, List.replicate, List.cons_append, List.nil_append, List.append_nil, Nat.reduceAdd, Nat.reduceSub, List.getD_cons_zero, List.getD_cons_succ]
    simp -implicitDefEqProofs (maxSteps := 2000000) (disch := first | assumption | (refine Shut.mk ?_; kernel_rfl) | omega | (simp only [List.getElem?_cons_zero, List.getElem?_cons_succ]; done) | (simp only [List.length_append, List.length_cons, List.length_nil, List.length_set, List.length_replicate, List.length_map, List.length_take, List.length_drop] <;> omega) | (fail)) only [↓WD, ↓kAsg, ↓kRet, ↓reduceIte, ↓clash_free, ↓WDD, ↓kOpD_callv, WK, thawAt, evPick, aPut, leavesBody, outA, outS, outSs, idsA, idsL, mapA, calmAs, calmA, calmSl, calmPt, genOf, calmH, calmFrom, calmO, mapAs, maskB, isUndef, tidy, Int.reduceLT, Int.reduceLE, Int.reduceEq, Int.reduceNe, Int.reduceNeg, Int.reduceAdd, Int.reduceSub, Int.reduceMul, Int.reduceToNat, Nat.reduceAdd, Nat.reduceSub, aBuiltin, aAppend, aAppend0, aAppendV, isVec, bears, emptyArr, sliceAs, keeps, aBuildVec, aMakeVec, sliceCells, aBuildSlice, aIndexAddr, aLoad, runOf, ofCells, TY, LB, aLen, withInt, fillA, frzL, listWith, frz, frz0, deep, cellsA, setRun, okCell, List.replicate, notJunk, Nat.reduceMul, Nat.reduceLeDiff, Nat.reducePow, Nat.reduceBEq, boxIds, aResults, aResult, outAs, tupA, evNilCheck, aMove, MD, opds, evOp, asOper, one, two, evCallee, evAssign, aNew, evSlice, evField, evExtract, evFunc, pureOp, isCall, readOp, List.range', back, putBack, fuelR, closed, aStore, thawCells, place, pack, mapO, Nat.reduceEqDiff, Nat.reduceLT, maxNeed, i64_id, frzA, frzAs, memD, lentA, footC, ↓kc_i_isAlphabet, ↓kc_i_lettersOf, ↓kc_i_letterByte, ↓loop_i_WordAt, ha, Bool.false_and]
  | true =>
    by_cases h0 : c < 0
    · have h1 : decide (0 ≤ c) = false := by simp; omega
      obtain ⟨n, rfl⟩ : ∃ m, n = m + 1 := ⟨n - 1, by omega⟩
      rw [fn_i_WordAt]
      simp only [S_i_WordAt, Tryd.f10, slimF, slimL, lpOf, codeOf, Option.getD_some, slim, loops, List.length_nil, Nat.add_zero, Nat.zero_add, slimO, slimG, List.map_cons, List.map_nil, List.getElem?_cons_zero, List.getElem?_cons_succ, Option.bind_some, Bool.false_eq_true, if_false, if_true, List.length_cons, List.replicate, List.cons_append, List.nil_append, List.append_nil, Nat.reduceAdd, Nat.reduceSub, List.getD_cons_zero, List.getD_cons_succ]
      simp -implicitDefEqProofs (maxSteps := 2000000) (disch := first | assumption | (refine Shut.mk ?_; kernel_rfl) | omega | (simp only [List.getElem?_cons_zero, List.getElem?_cons_succ]; done) | (simp only [List.length_append, List.length_cons, List.length_nil, List.length_set, List.length_replicate, List.length_map, List.length_take, List.length_drop] <;> omega) | (fail)) only [↓WD, ↓kAsg, ↓kRet, ↓reduceIte, ↓clash_free, ↓WDD, ↓kOpD_callv, WK, thawAt, evPick, aPut, leavesBody, outA, outS, outSs, idsA, idsL, mapA, calmAs, calmA, calmSl, calmPt, genOf, calmH, calmFrom, calmO, mapAs, maskB, isUndef, tidy, Int.reduceLT, Int.reduceLE, Int.reduceEq, Int.reduceNe, Int.reduceNeg, Int.reduceAdd, Int.reduceSub, Int.reduceMul, Int.reduceToNat, Nat.reduceAdd, Nat.reduceSub, aBuiltin, aAppend, aAppend0, aAppendV, isVec, bears, emptyArr, sliceAs, keeps, aBuildVec, aMakeVec, sliceCells, aBuildSlice, aIndexAddr, aLoad, runOf, ofCells, TY, LB, aLen, withInt, fillA, frzL, listWith, frz, frz0, deep, cellsA, setRun, okCell, List.replicate, notJunk, Nat.reduceMul, Nat.reduceLeDiff, Nat.reducePow, Nat.reduceBEq, boxIds, aResults, aResult, outAs, tupA, evNilCheck, aMove, MD, opds, evOp, asOper, one, two, evCallee, evAssign, aNew, evSlice, evField, evExtract, evFunc, pureOp, isCall, readOp, List.range', back, putBack, fuelR, closed, aStore, thawCells, place, pack, mapO, Nat.reduceEqDiff, Nat.reduceLT, maxNeed, i64_id, frzA, frzAs, memD, lentA, footC, ↓kc_i_isAlphabet, ↓kc_i_lettersOf, ↓kc_i_letterByte, ↓loop_i_WordAt, ha, h0, h1, Bool.and_false]
    · have h1 : decide (0 ≤ c) = true := by simp; omega
      have hl6 := letters_le6 al
      have loop_b := fun {R : Type} {n : Nat} {k : Exit → List A → H → Option R} (hn : 1 ≤ n) => @loop_i_WordAt R L n hn (letters al) hl6 letters_let k 8 c L [] 0 rfl rfl (by omega) (by omega) (by omega) hc1
      cases hw : (waGo (letters al) 8 c []).1 with
      | false =>
        obtain ⟨n, rfl⟩ : ∃ m, n = m + 1 := ⟨n - 1, by omega⟩
        rw [fn_i_WordAt]
        simp only [S_i_WordAt, Tryd.f10, slimF, slimL, lpOf, codeOf, Option.getD_some, slim, loops, List.length_nil, Nat.add_zero, Nat.zero_add, slimO, slimG, List.map_cons, List.map_nil, List.getElem?_cons_zero, List.getElem?_cons_succ, Option.bind_some, Bool.false_eq_true, if_false, if_true, List.length_cons, List.replicate, List.cons_append, List.nil_append, List.append_nil, Nat.reduceAdd, Nat.reduceSub, List.getD_cons_zero, List.getD_cons_succ]
        simp -implicitDefEqProofs (maxSteps := 2000000) (disch := first | assumption | (refine Shut.mk ?_; kernel_rfl) | omega | (simp only [List.getElem?_cons_zero, List.getElem?_cons_succ]; done) | (simp only [List.length_append, List.length_cons, List.length_nil, List.length_set, List.length_replicate, List.length_map, List.length_take, List.length_drop] <;> omega) | (fail)) only [↓WD, ↓kAsg, ↓kRet, ↓reduceIte, ↓clash_free, ↓WDD, ↓kOpD_callv, WK, thawAt, evPick, aPut, leavesBody, outA, outS, outSs, idsA, idsL, mapA, calmAs, calmA, calmSl, calmPt, genOf, calmH, calmFrom, calmO, mapAs, maskB, isUndef, tidy, Int.reduceLT, Int.reduceLE, Int.reduceEq, Int.reduceNe, Int.reduceNeg, Int.reduceAdd, Int.reduceSub, Int.reduceMul, Int.reduceToNat, Nat.reduceAdd, Nat.reduceSub, aBuiltin, aAppend, aAppend0, aAppendV, isVec, bears, emptyArr, sliceAs, keeps, aBuildVec, aMakeVec, sliceCells, aBuildSlice, aIndexAddr, aLoad, runOf, ofCells, TY, LB, aLen, withInt, fillA, frzL, listWith, frz, frz0, deep, cellsA, setRun, okCell, List.replicate, notJunk, Nat.reduceMul, Nat.reduceLeDiff, Nat.reducePow, Nat.reduceBEq, boxIds, aResults, aResult, outAs, tupA, evNilCheck, aMove, MD, opds, evOp, asOper, one, two, evCallee, evAssign, aNew, evSlice, evField, evExtract, evFunc, pureOp, isCall, readOp, List.range', back, putBack, fuelR, closed, aStore, thawCells, place, pack, mapO, Nat.reduceEqDiff, Nat.reduceLT, maxNeed, i64_id, frzA, frzAs, memD, lentA, footC, ↓kc_i_isAlphabet, ↓kc_i_lettersOf, ↓kc_i_letterByte, ha, h0, h1, nil_bytes, ↓loop_b, hw]
      | true =>
        have hle := (waGo_mem (ls := letters al) 8 c [] (by simp)).1
        have hle2 := (revG_props ((waGo (letters al) 8 c []).2.2.length + 1) 0 (((waGo (letters al) 8 c []).2.2.length : Int) - 1) (waGo (letters al) 8 c []).2.2 (Int.le_refl _) (by omega)).1
        obtain ⟨n, rfl⟩ : ∃ m, n = m + 1 := ⟨n - 1, by omega⟩
        rw [fn_i_WordAt]
        simp only [S_i_WordAt, Tryd.f10, slimF, slimL, lpOf, codeOf, Option.getD_some, slim, loops, List.length_nil, Nat.add_zero, Nat.zero_add, slimO, slimG, List.map_cons, List.map_nil, List.getElem?_cons_zero, List.getElem?_cons_succ, Option.bind_some, Bool.false_eq_true, if_false, if_true, List.length_cons, List.replicate, List.cons_append, List.nil_append, List.append_nil, Nat.reduceAdd, Nat.reduceSub, List.getD_cons_zero, List.getD_cons_succ]
        simp -implicitDefEqProofs (maxSteps := 2000000) (disch := first | assumption | (refine Shut.mk ?_; kernel_rfl) | omega | (simp only [List.getElem?_cons_zero, List.getElem?_cons_succ]; done) | (simp only [List.length_append, List.length_cons, List.length_nil, List.length_set, List.length_replicate, List.length_map, List.length_take, List.length_drop] <;> omega) | (fail)) only [↓WD, ↓kAsg, ↓kRet, ↓reduceIte, ↓clash_free, ↓WDD, ↓kOpD_callv, WK, thawAt, evPick, aPut, leavesBody, outA, outS, outSs, idsA, idsL, mapA, calmAs, calmA, calmSl, calmPt, genOf, calmH, calmFrom, calmO, mapAs, maskB, isUndef, tidy, Int.reduceLT, Int.reduceLE, Int.reduceEq, Int.reduceNe, Int.reduceNeg, Int.reduceAdd, Int.reduceSub, Int.reduceMul, Int.reduceToNat, Nat.reduceAdd, Nat.reduceSub, aBuiltin, aAppend, aAppend0, aAppendV, isVec, bears, emptyArr, sliceAs, keeps, aBuildVec, aMakeVec, sliceCells, aBuildSlice, aIndexAddr, aLoad, runOf, ofCells, TY, LB, aLen, withInt, fillA, frzL, listWith, frz, frz0, deep, cellsA, setRun, okCell, List.replicate, notJunk, Nat.reduceMul, Nat.reduceLeDiff, Nat.reducePow, Nat.reduceBEq, boxIds, aResults, aResult, outAs, tupA, evNilCheck, aMove, MD, opds, evOp, asOper, one, two, evCallee, evAssign, aNew, evSlice, evField, evExtract, evFunc, pureOp, isCall, readOp, List.range', back, putBack, fuelR, closed, aStore, thawCells, place, pack, mapO, Nat.reduceEqDiff, Nat.reduceLT, maxNeed, i64_id, frzA, frzAs, memD, lentA, footC, ↓kc_i_isAlphabet, ↓kc_i_lettersOf, ↓kc_i_letterByte, ha, h0, h1, nil_bytes, ↓loop_b, hw, ↓kc_rev, u_bytes, ↓conv_bytes_str]
theorem kc_i_WordAt {R : Type} {L n : Nat} {hq : H} {k : A → H → Option R} (hn : 3 ≤ n) (c al : Int) (hc1 : c ≤ 1000000) (hL : 2 ^ 60 ≤ L) : kCall env (evCall env L n) hq 10 [.d (.int .i64 c), .d (.int .i64 al)] k = k (.tup [.d (.str (wordAt c al).1), .d (.bool (wordAt c al).2)]) hq :=
  kCall_still rfl (ev_i_WordAt hn c al hc1 hL) rfl (.inl rfl)

end Ev
end Go.Proofs.YtojaohcpgelhmaaDoor
end

/-!
  The law: the program's SwapSystem and the reference's answer the same, and share no memory.
-/
section
set_option linter.unusedSimpArgs false
set_option linter.unusedVariables false
set_option maxRecDepth 8000
set_option pp.maxSteps 6000
set_option maxHeartbeats 4000000
namespace Go.Proofs.YtojaohcpgelhmaaDoor
namespace Ev

theorem kc_i_SwapSystem_m {R : Type} {L n id : Nat} {hq : H} {k : A → H → Option R} (hn : 7 ≤ n) (al st x y : Int) (l : List Edge) (hi : hq[id]? = some (.arr (edgesD l) 3 0)) (hl : l.length ≤ 4294967296) (hL : 2 ^ 60 ≤ L) :
    kCall env (evCall env L n) hq 7 [.agg [.d (.int .i64 al), .d (.int .i64 st), .sl id 0 0 l.length], .d (.int .i64 x), .d (.int .i64 y)] k
    = k (.tup [.agg [.d (.int .i64 (oS (swapS ⟨al, st, l⟩ x y)).al), .d (.int .i64 (oS (swapS ⟨al, st, l⟩ x y)).st), .sl hq.length 0 0 (oS (swapS ⟨al, st, l⟩ x y)).es.length], .d (.bool (swapS ⟨al, st, l⟩ x y).isSome)]) (hq ++ [.arr (edgesD (oS (swapS ⟨al, st, l⟩ x y)).es) (eL (oS (swapS ⟨al, st, l⟩ x y)).es) 0]) := by
  rw [kCall_lay1 hi (by simp [idsL, idsA]) mode_i_SwapSystem (frz_sys rfl) (ev_i_SwapSystem hn al st x y l hl hL _ rfl) (by simp only [cleanA, cleanAs, cleanD, cleanO, clean_edges, Bool.and_self])]
  simp [mapA, mapAs, back, mapO]

end Ev
end Go.Proofs.YtojaohcpgelhmaaDoor
end

/-!
  The law: a renamed system leads where the system leads, and is renamed back.
-/
section
set_option linter.unusedSimpArgs false
set_option linter.unusedVariables false
set_option maxRecDepth 8000
set_option pp.maxSteps 6000
set_option maxHeartbeats 4000000
namespace Go.Proofs.YtojaohcpgelhmaaDoor
namespace Ev

theorem kc_i_SwapSystem_d {R : Type} {L n : Nat} {hq : H} {k : A → H → Option R} (hn : 7 ≤ n) (al st x y : Int) (l : List Edge) (hl : l.length ≤ 4294967296) (hL : 2 ^ 60 ≤ L) :
    kCall env (evCall env L n) hq 7 [.agg [.d (.int .i64 al), .d (.int .i64 st), .d (.ivs l.length (edgesD l))], .d (.int .i64 x), .d (.int .i64 y)] k
    = k (.tup [.agg [.d (.int .i64 (oS (swapS ⟨al, st, l⟩ x y)).al), .d (.int .i64 (oS (swapS ⟨al, st, l⟩ x y)).st), .sl hq.length 0 0 (oS (swapS ⟨al, st, l⟩ x y)).es.length], .d (.bool (swapS ⟨al, st, l⟩ x y).isSome)]) (hq ++ [.arr (edgesD (oS (swapS ⟨al, st, l⟩ x y)).es) (eL (oS (swapS ⟨al, st, l⟩ x y)).es) 0]) := by
  rw [kCall_lay0 rfl mode_i_SwapSystem (ev_i_SwapSystem hn al st x y l hl hL _ rfl) (by simp only [cleanA, cleanAs, cleanD, cleanO, clean_edges, Bool.and_self, List.all_cons, List.all_nil])]
  simp [mapA, mapAs, back, mapO]

theorem kc_i_SwapSystem_0 {R : Type} {L n id : Nat} {hq : H} {k : A → H → Option R} (hn : 7 ≤ n) (al st x y : Int) (hi : hq[id]? = some (.arr [] 0 0)) (hL : 2 ^ 60 ≤ L) :
    kCall env (evCall env L n) hq 7 [.agg [.d (.int .i64 al), .d (.int .i64 st), .sl id 0 0 0], .d (.int .i64 x), .d (.int .i64 y)] k
    = k (.tup [.agg [.d (.int .i64 (oS (swapS ⟨al, st, []⟩ x y)).al), .d (.int .i64 (oS (swapS ⟨al, st, []⟩ x y)).st), .sl hq.length 0 0 (oS (swapS ⟨al, st, []⟩ x y)).es.length], .d (.bool (swapS ⟨al, st, []⟩ x y).isSome)]) (hq ++ [.arr (edgesD (oS (swapS ⟨al, st, []⟩ x y)).es) (eL (oS (swapS ⟨al, st, []⟩ x y)).es) 0]) := by
  have he := ev_i_SwapSystem (L := L) hn al st x y [] (by simp) hL _ rfl
  rw [kCall_lay1 hi (by simp [idsL, idsA]) mode_i_SwapSystem (fs := [.agg [.d (.int .i64 al), .d (.int .i64 st), .d (.ivs 0 [])], .d (.int .i64 x), .d (.int .i64 y)]) (by simp [mapAs, mapA, place]; rfl) he (by simp only [cleanA, cleanAs, cleanD, cleanO, clean_edges, Bool.and_self])]
  simp [mapA, mapAs, back, mapO]

/-- Where the words end. -/
def iEnd (al : Int) : Nat → Nat → Nat
  | 0, i => i
  | j + 1, i => if (wordAt i al).2 then iEnd al j (i + 1) else i

theorem loop_FnSwapSystem {R : Type} {L n : Nat} (hn : 9 ≤ n) (hL : 2 ^ 60 ≤ L) {al st x y al2 st2 : Int} {l l2 : List Edge} {e : Nat} (hl : l.length ≤ 80000) (hl2 : l2.length ≤ 80000) (he : e = 0 ∧ l2 = [] ∨ e = 3) (hsw : ∀ w, wordIn al w = true → statesAfter ⟨al2, st2, l2⟩ (swapWord w x y) = statesAfter ⟨al, st, l⟩ w) {k : Exit → List A → H → Option R} : ∀ (j i m : Nat) (hi : i + j = 40) (hm : j < m),
    kLoop env (evCall env L n) L 0 [] (false :: false :: true :: true :: true :: true :: true :: false :: false :: false :: true :: false :: false :: false :: false :: false :: false :: false :: false :: false :: false :: false :: false :: false :: false :: false :: false :: false :: false :: false :: false :: false :: false :: false :: false :: false :: false :: false :: false :: false :: false :: false :: false :: false :: false :: false :: false :: false :: false :: false :: false :: false :: false :: false :: false :: false :: false :: false :: false :: false :: false :: false :: false :: false :: false :: false :: false :: false :: false :: false :: false :: false :: false :: false :: false :: false :: false :: false :: false :: false :: false :: false :: false :: false :: false :: false :: false :: false :: false :: false :: false :: false :: false :: false :: false :: false :: false :: false :: false :: []) (lp_FnSwapSystem 0) (true :: true :: false :: false :: false :: false :: false :: true :: true :: true :: false :: true :: true :: true :: true :: true :: true :: true :: true :: true :: true :: true :: true :: true :: true :: true :: true :: true :: true :: true :: true :: true :: true :: true :: true :: true :: true :: true :: true :: true :: true :: true :: true :: true :: true :: true :: true :: true :: true :: true :: true :: true :: true :: true :: true :: true :: true :: true :: true :: true :: true :: true :: true :: true :: true :: true :: true :: true :: true :: true :: true :: true :: true :: true :: true :: true :: true :: true :: true :: true :: true :: true :: true :: true :: true :: true :: true :: true :: true :: true :: true :: true :: true :: true :: true :: true :: true :: true :: true :: []) m (.junk :: .junk :: .d (.bool false) :: .ptr 0 0 0 :: .d (.int .i64 x) :: .d (.int .i64 y) :: .ptr 1 0 0 :: .junk :: .junk :: .junk :: .d (.int .i64 ((i : Int))) :: .junk :: .junk :: .junk :: .junk :: .junk :: .junk :: .junk :: .junk :: .junk :: .junk :: .junk :: .junk :: .junk :: .junk :: .junk :: .junk :: .junk :: .junk :: .junk :: .junk :: .junk :: .junk :: .junk :: .junk :: .junk :: .junk :: .junk :: .junk :: .junk :: .junk :: .junk :: .junk :: .junk :: .junk :: .junk :: .junk :: .junk :: .junk :: .junk :: .junk :: .junk :: .junk :: .junk :: .junk :: .junk :: .junk :: .junk :: .junk :: .junk :: .junk :: .junk :: .junk :: .junk :: .junk :: .junk :: .junk :: .junk :: .junk :: .junk :: .junk :: .junk :: .junk :: .junk :: .junk :: .junk :: .junk :: .junk :: .junk :: .junk :: .junk :: .junk :: .junk :: .junk :: .junk :: .junk :: .junk :: .junk :: .junk :: .junk :: .junk :: .junk :: .junk :: .junk :: .junk :: .junk :: .junk :: .junk :: .junk :: []) [.box [.d (.int .i64 al), .d (.int .i64 st), .d (.ivs l.length (edgesD l))], .box [.d (.int .i64 al2), .d (.int .i64 st2), .sl 2 0 0 l2.length], .arr (edgesD l2) e 0] k
    = k (.exit 0) (.junk :: .junk :: .d (.bool false) :: .ptr 0 0 0 :: .d (.int .i64 x) :: .d (.int .i64 y) :: .ptr 1 0 0 :: .junk :: .junk :: .junk :: .d (.int .i64 (((iEnd al j i : Nat) : Int))) :: .junk :: .junk :: .junk :: .junk :: .junk :: .junk :: .junk :: .junk :: .junk :: .junk :: .junk :: .junk :: .junk :: .junk :: .junk :: .junk :: .junk :: .junk :: .junk :: .junk :: .junk :: .junk :: .junk :: .junk :: .junk :: .junk :: .junk :: .junk :: .junk :: .junk :: .junk :: .junk :: .junk :: .junk :: .junk :: .junk :: .junk :: .junk :: .junk :: .junk :: .junk :: .junk :: .junk :: .junk :: .junk :: .junk :: .junk :: .junk :: .junk :: .junk :: .junk :: .junk :: .junk :: .junk :: .junk :: .junk :: .junk :: .junk :: .junk :: .junk :: .junk :: .junk :: .junk :: .junk :: .junk :: .junk :: .junk :: .junk :: .junk :: .junk :: .junk :: .junk :: .junk :: .junk :: .junk :: .junk :: .junk :: .junk :: .junk :: .junk :: .junk :: .junk :: .junk :: .junk :: .junk :: .junk :: .junk :: .junk :: []) [.box [.d (.int .i64 al), .d (.int .i64 st), .d (.ivs l.length (edgesD l))], .box [.d (.int .i64 al2), .d (.int .i64 st2), .sl 2 0 0 l2.length], .arr (edgesD l2) e 0] := by
  intro j
  induction j with
  | zero =>
    intro i m hi hm
    obtain ⟨m, rfl⟩ : ∃ q, m = q + 1 := ⟨m - 1, by omega⟩
    have hc : ¬ (i : Int) < 40 := by omega
    rw [step_FnSwapSystem_0]
    simp only [S_FnSwapSystem_0, Tryd.f3, slimF, slimL, lpOf, codeOf, Option.getD_some, slim, loops, List.length_nil, Nat.add_zero, Nat.zero_add, slimO, slimG, List.map_cons, List.map_nil, List.getElem?_cons_zero, List.getElem?_cons_succ, Option.bind_some, Bool.false_eq_true, if_false, if_true, List.length_cons, List.replicate, List.cons_append, List.nil_append, List.append_nil, Nat.reduceAdd, Nat.reduceSub, List.getD_cons_zero, List.getD_cons_succ]
    simp -implicitDefEqProofs (maxSteps := 2000000) (disch := first | assumption | (refine Shut.mk ?_; kernel_rfl) | omega | (simp only [List.getElem?_cons_zero, List.getElem?_cons_succ]; done) | (simp only [List.length_append, List.length_cons, List.length_nil, List.length_set, List.length_replicate, List.length_map, List.length_take, List.length_drop] <;> omega) | (fail)) only [↓WD, ↓kAsg, ↓kRet, ↓reduceIte, ↓clash_free, ↓WDD, ↓kOpD_callv, WK, thawAt, evPick, aPut, leavesBody, outA, outS, outSs, idsA, idsL, mapA, calmAs, calmA, calmSl, calmPt, genOf, calmH, calmFrom, calmO, mapAs, maskB, isUndef, tidy, Int.reduceLT, Int.reduceLE, Int.reduceEq, Int.reduceNe, Int.reduceNeg, Int.reduceAdd, Int.reduceSub, Int.reduceMul, Int.reduceToNat, Nat.reduceAdd, Nat.reduceSub, aBuiltin, aAppend, aAppend0, aAppendV, isVec, bears, emptyArr, sliceAs, keeps, aBuildVec, aMakeVec, sliceCells, aBuildSlice, aIndexAddr, aLoad, runOf, ofCells, TY, LB, aLen, withInt, fillA, frzL, listWith, frz, frz0, deep, cellsA, setRun, okCell, List.replicate, notJunk, Nat.reduceMul, Nat.reduceLeDiff, Nat.reducePow, Nat.reduceBEq, boxIds, aResults, aResult, outAs, tupA, evNilCheck, aMove, MD, opds, evOp, asOper, one, two, evCallee, evAssign, aNew, evSlice, evField, evExtract, evFunc, pureOp, isCall, readOp, List.range', back, putBack, fuelR, closed, aStore, thawCells, place, pack, mapO, Nat.reduceEqDiff, Nat.reduceLT, maxNeed, i64_id, frzA, frzAs, memD, lentA, footC, ↓kc_s_SwapSystem, ↓kc_agSystems, ↓kc_i_WordAt, ↓kc_i_SwapWord, ↓kc_i_StatesAfter, ↓kc_i_SystemValid, ↓kl_agSystems, ↓kl_i_StatesAfter, ↓kl_i_SystemValid, ↓kv_agSystems_1, ↓kv_agSystems_2, ↓kv_agSystems_3, ↓kv_i_StatesAfter_1, ↓kv_i_SystemValid_1, hc]
    rfl
  | succ j ih =>
    intro i m hi hm
    obtain ⟨m, rfl⟩ : ∃ q, m = q + 1 := ⟨m - 1, by omega⟩
    have hc : (i : Int) < 40 := by omega
    have hl3 : l.length ≤ 4294967296 := by omega
    have hl4 : l2.length ≤ 4294967296 := by omega
    have hi6 : (i : Int) ≤ 1000000 := by omega
    cases hf : (wordAt i al).2 with
    | false =>
      rw [step_FnSwapSystem_0]
      simp only [S_FnSwapSystem_0, Tryd.f3, slimF, slimL, lpOf, codeOf, Option.getD_some, slim, loops, List.length_nil, Nat.add_zero, Nat.zero_add, slimO, slimG, List.map_cons, List.map_nil, List.getElem?_cons_zero, List.getElem?_cons_succ, Option.bind_some, Bool.false_eq_true, if_false, if_true, List.length_cons, List.replicate, List.cons_append, List.nil_append, List.append_nil, Nat.reduceAdd, Nat.reduceSub, List.getD_cons_zero, List.getD_cons_succ]
      simp -implicitDefEqProofs (maxSteps := 2000000) (disch := first | assumption | (refine Shut.mk ?_; kernel_rfl) | omega | (simp only [List.getElem?_cons_zero, List.getElem?_cons_succ]; done) | (simp only [List.length_append, List.length_cons, List.length_nil, List.length_set, List.length_replicate, List.length_map, List.length_take, List.length_drop] <;> omega) | (fail)) only [↓WD, ↓kAsg, ↓kRet, ↓reduceIte, ↓clash_free, ↓WDD, ↓kOpD_callv, WK, thawAt, evPick, aPut, leavesBody, outA, outS, outSs, idsA, idsL, mapA, calmAs, calmA, calmSl, calmPt, genOf, calmH, calmFrom, calmO, mapAs, maskB, isUndef, tidy, Int.reduceLT, Int.reduceLE, Int.reduceEq, Int.reduceNe, Int.reduceNeg, Int.reduceAdd, Int.reduceSub, Int.reduceMul, Int.reduceToNat, Nat.reduceAdd, Nat.reduceSub, aBuiltin, aAppend, aAppend0, aAppendV, isVec, bears, emptyArr, sliceAs, keeps, aBuildVec, aMakeVec, sliceCells, aBuildSlice, aIndexAddr, aLoad, runOf, ofCells, TY, LB, aLen, withInt, fillA, frzL, listWith, frz, frz0, deep, cellsA, setRun, okCell, List.replicate, notJunk, Nat.reduceMul, Nat.reduceLeDiff, Nat.reducePow, Nat.reduceBEq, boxIds, aResults, aResult, outAs, tupA, evNilCheck, aMove, MD, opds, evOp, asOper, one, two, evCallee, evAssign, aNew, evSlice, evField, evExtract, evFunc, pureOp, isCall, readOp, List.range', back, putBack, fuelR, closed, aStore, thawCells, place, pack, mapO, Nat.reduceEqDiff, Nat.reduceLT, maxNeed, i64_id, frzA, frzAs, memD, lentA, footC, ↓kc_s_SwapSystem, ↓kc_agSystems, ↓kc_i_WordAt, ↓kc_i_SwapWord, ↓kc_i_StatesAfter, ↓kc_i_SystemValid, ↓kl_agSystems, ↓kl_i_StatesAfter, ↓kl_i_SystemValid, ↓kv_agSystems_1, ↓kv_agSystems_2, ↓kv_agSystems_3, ↓kv_i_StatesAfter_1, ↓kv_i_SystemValid_1, LE, hc, hf]
      simp only [iEnd, hf, Bool.false_eq_true, if_false]
    | true =>
      have hst := hsw _ (wordAt_in hf)
      have ih' := ih (i + 1) m (by omega) (by omega)
      have e4 : ((i + 1 : Nat) : Int) = (i : Int) + 1 := by omega
      rw [e4] at ih'
      clear ih
      rcases he with ⟨rfl, rfl⟩ | rfl
      · have kl_0 := fun {R : Type} {n : Nat} {k : A → Option R} (hn : 7 ≤ n) => @kl_i_StatesAfter R L n k hn al2 st2 [] (swapWord (wordAt i al).1 x y) (by simp) hL
        simp only [List.length_nil, edgesD_nil] at kl_0 ih' ⊢
        rw [step_FnSwapSystem_0]
        simp only [S_FnSwapSystem_0, Tryd.f3, slimF, slimL, lpOf, codeOf, Option.getD_some, slim, loops, List.length_nil, Nat.add_zero, Nat.zero_add, slimO, slimG, List.map_cons, List.map_nil, List.getElem?_cons_zero, List.getElem?_cons_succ, Option.bind_some, Bool.false_eq_true, if_false, if_true, List.length_cons, List.replicate, List.cons_append, List.nil_append, List.append_nil, Nat.reduceAdd, Nat.reduceSub, List.getD_cons_zero, List.getD_cons_succ]
        simp -implicitDefEqProofs (maxSteps := 2000000) (disch := first | assumption | (refine Shut.mk ?_; kernel_rfl) | omega | (simp only [List.getElem?_cons_zero, List.getElem?_cons_succ]; done) | (simp only [List.length_append, List.length_cons, List.length_nil, List.length_set, List.length_replicate, List.length_map, List.length_take, List.length_drop] <;> omega) | (fail)) only [↓WD, ↓kAsg, ↓kRet, ↓reduceIte, ↓clash_free, ↓WDD, ↓kOpD_callv, WK, thawAt, evPick, aPut, leavesBody, outA, outS, outSs, idsA, idsL, mapA, calmAs, calmA, calmSl, calmPt, genOf, calmH, calmFrom, calmO, mapAs, maskB, isUndef, tidy, Int.reduceLT, Int.reduceLE, Int.reduceEq, Int.reduceNe, Int.reduceNeg, Int.reduceAdd, Int.reduceSub, Int.reduceMul, Int.reduceToNat, Nat.reduceAdd, Nat.reduceSub, aBuiltin, aAppend, aAppend0, aAppendV, isVec, bears, emptyArr, sliceAs, keeps, aBuildVec, aMakeVec, sliceCells, aBuildSlice, aIndexAddr, aLoad, runOf, ofCells, TY, LB, aLen, withInt, fillA, frzL, listWith, frz, frz0, deep, cellsA, setRun, okCell, List.replicate, notJunk, Nat.reduceMul, Nat.reduceLeDiff, Nat.reducePow, Nat.reduceBEq, boxIds, aResults, aResult, outAs, tupA, evNilCheck, aMove, MD, opds, evOp, asOper, one, two, evCallee, evAssign, aNew, evSlice, evField, evExtract, evFunc, pureOp, isCall, readOp, List.range', back, putBack, fuelR, closed, aStore, thawCells, place, pack, mapO, Nat.reduceEqDiff, Nat.reduceLT, maxNeed, i64_id, frzA, frzAs, memD, lentA, footC, ↓kc_s_SwapSystem, ↓kc_agSystems, ↓kc_i_WordAt, ↓kc_i_SwapWord, ↓kc_i_StatesAfter, ↓kc_i_SystemValid, ↓kl_agSystems, ↓kl_i_StatesAfter, ↓kl_i_SystemValid, ↓kv_agSystems_1, ↓kv_agSystems_2, ↓kv_agSystems_3, ↓kv_i_StatesAfter_1, ↓kv_i_SystemValid_1, LE, hc, hf, ↓kl_0, hst, ↓ih']
        simp only [iEnd, hf, if_true]
      · rw [step_FnSwapSystem_0]
        simp only [S_FnSwapSystem_0, Tryd.f3, slimF, slimL, lpOf, codeOf, Option.getD_some, slim, loops, List.length_nil, Nat.add_zero, Nat.zero_add, slimO, slimG, List.map_cons, List.map_nil, List.getElem?_cons_zero, List.getElem?_cons_succ, Option.bind_some, Bool.false_eq_true, if_false, if_true, List.length_cons, List.replicate, List.cons_append, List.nil_append, List.append_nil, Nat.reduceAdd, Nat.reduceSub, List.getD_cons_zero, List.getD_cons_succ]
        simp -implicitDefEqProofs (maxSteps := 2000000) (disch := first | assumption | (refine Shut.mk ?_; kernel_rfl) | omega | (simp only [List.getElem?_cons_zero, List.getElem?_cons_succ]; done) | (simp only [List.length_append, List.length_cons, List.length_nil, List.length_set, List.length_replicate, List.length_map, List.length_take, List.length_drop] <;> omega) | (fail)) only [↓WD, ↓kAsg, ↓kRet, ↓reduceIte, ↓clash_free, ↓WDD, ↓kOpD_callv, WK, thawAt, evPick, aPut, leavesBody, outA, outS, outSs, idsA, idsL, mapA, calmAs, calmA, calmSl, calmPt, genOf, calmH, calmFrom, calmO, mapAs, maskB, isUndef, tidy, Int.reduceLT, Int.reduceLE, Int.reduceEq, Int.reduceNe, Int.reduceNeg, Int.reduceAdd, Int.reduceSub, Int.reduceMul, Int.reduceToNat, Nat.reduceAdd, Nat.reduceSub, aBuiltin, aAppend, aAppend0, aAppendV, isVec, bears, emptyArr, sliceAs, keeps, aBuildVec, aMakeVec, sliceCells, aBuildSlice, aIndexAddr, aLoad, runOf, ofCells, TY, LB, aLen, withInt, fillA, frzL, listWith, frz, frz0, deep, cellsA, setRun, okCell, List.replicate, notJunk, Nat.reduceMul, Nat.reduceLeDiff, Nat.reducePow, Nat.reduceBEq, boxIds, aResults, aResult, outAs, tupA, evNilCheck, aMove, MD, opds, evOp, asOper, one, two, evCallee, evAssign, aNew, evSlice, evField, evExtract, evFunc, pureOp, isCall, readOp, List.range', back, putBack, fuelR, closed, aStore, thawCells, place, pack, mapO, Nat.reduceEqDiff, Nat.reduceLT, maxNeed, i64_id, frzA, frzAs, memD, lentA, footC, ↓kc_s_SwapSystem, ↓kc_agSystems, ↓kc_i_WordAt, ↓kc_i_SwapWord, ↓kc_i_StatesAfter, ↓kc_i_SystemValid, ↓kl_agSystems, ↓kl_i_StatesAfter, ↓kl_i_SystemValid, ↓kv_agSystems_1, ↓kv_agSystems_2, ↓kv_agSystems_3, ↓kv_i_StatesAfter_1, ↓kv_i_SystemValid_1, LE, hc, hf, hst, ↓ih']
        simp only [iEnd, hf, if_true]

theorem law_none {L n : Nat} (hn : 30 ≤ n) (c : List UInt8) (hs : ¬ (1048576 : Int) < c.length) {al st x y : Int} {l : List Edge} (hl3 : l.length ≤ 4294967296) (kd : ∀ (R : Type) (L n : Nat) (hq : H) (k : A → H → Option R), 16 ≤ n → 2 ^ 60 ≤ L → kCall env (evCall env L n) hq 6 [.d (.ivs c.length (bytesL c))] k = k (.tup [.agg [.d (.int .i64 al), .d (.int .i64 st), .d (.ivs l.length (edgesD l))], .d (.int .i64 x), .d (.int .i64 y)]) hq) (hd : swapS ⟨al, st, l⟩ x y = none) (hL : 2 ^ 60 ≤ L) : evCall env L n 3 [.d (.ivs c.length (bytesL c))] [] = some (.d (.bool true), []) := by
  have e0 : eL [] = 0 := rfl
  obtain ⟨n, rfl⟩ : ∃ m, n = m + 1 := ⟨n - 1, by omega⟩
  rw [fn_FnSwapSystem]
  simp only [S_FnSwapSystem, Tryd.f3, slimF, slimL, lpOf, codeOf, Option.getD_some, slim, loops, List.length_nil, Nat.add_zero, Nat.zero_add, slimO, slimG, List.map_cons, List.map_nil, List.getElem?_cons_zero, List.getElem?_cons_succ, Option.bind_some, Bool.false_eq_true, if_false, if_true, List.length_cons, List.replicate, List.cons_append, List.nil_append, List.append_nil, Nat.reduceAdd, Nat.reduceSub, List.getD_cons_zero, List.getD_cons_succ]
  simp -implicitDefEqProofs (maxSteps := 2000000) (disch := first | assumption | (refine Shut.mk ?_; kernel_rfl) | omega | (simp only [List.getElem?_cons_zero, List.getElem?_cons_succ]; done) | (simp only [List.length_append, List.length_cons, List.length_nil, List.length_set, List.length_replicate, List.length_map, List.length_take, List.length_drop] <;> omega) | (fail)) only [↓WD, ↓kAsg, ↓kRet, ↓reduceIte, ↓clash_free, ↓WDD, ↓kOpD_callv, WK, thawAt, evPick, aPut, leavesBody, outA, outS, outSs, idsA, idsL, mapA, calmAs, calmA, calmSl, calmPt, genOf, calmH, calmFrom, calmO, mapAs, maskB, isUndef, tidy, Int.reduceLT, Int.reduceLE, Int.reduceEq, Int.reduceNe, Int.reduceNeg, Int.reduceAdd, Int.reduceSub, Int.reduceMul, Int.reduceToNat, Nat.reduceAdd, Nat.reduceSub, aBuiltin, aAppend, aAppend0, aAppendV, isVec, bears, emptyArr, sliceAs, keeps, aBuildVec, aMakeVec, sliceCells, aBuildSlice, aIndexAddr, aLoad, runOf, ofCells, TY, LB, aLen, withInt, fillA, frzL, listWith, frz, frz0, deep, cellsA, setRun, okCell, List.replicate, notJunk, Nat.reduceMul, Nat.reduceLeDiff, Nat.reducePow, Nat.reduceBEq, boxIds, aResults, aResult, outAs, tupA, evNilCheck, aMove, MD, opds, evOp, asOper, one, two, evCallee, evAssign, aNew, evSlice, evField, evExtract, evFunc, pureOp, isCall, readOp, List.range', back, putBack, fuelR, closed, aStore, thawCells, place, pack, mapO, Nat.reduceEqDiff, Nat.reduceLT, maxNeed, i64_id, frzA, frzAs, memD, lentA, footC, ↓kc_s_SwapSystem, ↓kc_agSystems, ↓kc_i_WordAt, ↓kc_i_SwapWord, ↓kc_i_StatesAfter, ↓kc_i_SystemValid, ↓kl_agSystems, ↓kl_i_StatesAfter, ↓kl_i_SystemValid, ↓kv_agSystems_1, ↓kv_agSystems_2, ↓kv_agSystems_3, ↓kv_i_StatesAfter_1, ↓kv_i_SystemValid_1, LE, hs, ↓kd, ↓kc_i_SwapSystem_d, ↓kv_agSystems_any, ↓kl_agSystems_nil, hd, oS_none, e0, edgesD_nil]

theorem law_some {L n : Nat} (hn : 30 ≤ n) (c : List UInt8) (hs : ¬ (1048576 : Int) < c.length) {al st x y al2 : Int} {l l2 : List Edge} (hl3 : l.length ≤ 4294967296) (hl4 : l2.length ≤ 4294967296) (kd : ∀ (R : Type) (L n : Nat) (hq : H) (k : A → H → Option R), 16 ≤ n → 2 ^ 60 ≤ L → kCall env (evCall env L n) hq 6 [.d (.ivs c.length (bytesL c))] k = k (.tup [.agg [.d (.int .i64 al), .d (.int .i64 st), .d (.ivs l.length (edgesD l))], .d (.int .i64 x), .d (.int .i64 y)]) hq) (hd : swapS ⟨al, st, l⟩ x y = some ⟨al2, st, l2⟩) (hb : swapS ⟨al2, st, l2⟩ x y = some ⟨al, st, l⟩) (hv2 : sysOK ⟨al2, st, l2⟩ = true) (e0 : eL l2 = 3) (e1 : eL l = 3)
    {iE : Int} (loop_e : ∀ {R : Type} {n : Nat} {k : Exit → List A → H → Option R} (hn : 9 ≤ n),
    kLoop env (evCall env L n) L 0 [] (false :: false :: true :: true :: true :: true :: true :: false :: false :: false :: true :: false :: false :: false :: false :: false :: false :: false :: false :: false :: false :: false :: false :: false :: false :: false :: false :: false :: false :: false :: false :: false :: false :: false :: false :: false :: false :: false :: false :: false :: false :: false :: false :: false :: false :: false :: false :: false :: false :: false :: false :: false :: false :: false :: false :: false :: false :: false :: false :: false :: false :: false :: false :: false :: false :: false :: false :: false :: false :: false :: false :: false :: false :: false :: false :: false :: false :: false :: false :: false :: false :: false :: false :: false :: false :: false :: false :: false :: false :: false :: false :: false :: false :: false :: false :: false :: false :: false :: false :: []) (lp_FnSwapSystem 0) (true :: true :: false :: false :: false :: false :: false :: true :: true :: true :: false :: true :: true :: true :: true :: true :: true :: true :: true :: true :: true :: true :: true :: true :: true :: true :: true :: true :: true :: true :: true :: true :: true :: true :: true :: true :: true :: true :: true :: true :: true :: true :: true :: true :: true :: true :: true :: true :: true :: true :: true :: true :: true :: true :: true :: true :: true :: true :: true :: true :: true :: true :: true :: true :: true :: true :: true :: true :: true :: true :: true :: true :: true :: true :: true :: true :: true :: true :: true :: true :: true :: true :: true :: true :: true :: true :: true :: true :: true :: true :: true :: true :: true :: true :: true :: true :: true :: true :: true :: []) L (.junk :: .junk :: .d (.bool false) :: .ptr 0 0 0 :: .d (.int .i64 x) :: .d (.int .i64 y) :: .ptr 1 0 0 :: .junk :: .junk :: .junk :: .d (.int .i64 0) :: .junk :: .junk :: .junk :: .junk :: .junk :: .junk :: .junk :: .junk :: .junk :: .junk :: .junk :: .junk :: .junk :: .junk :: .junk :: .junk :: .junk :: .junk :: .junk :: .junk :: .junk :: .junk :: .junk :: .junk :: .junk :: .junk :: .junk :: .junk :: .junk :: .junk :: .junk :: .junk :: .junk :: .junk :: .junk :: .junk :: .junk :: .junk :: .junk :: .junk :: .junk :: .junk :: .junk :: .junk :: .junk :: .junk :: .junk :: .junk :: .junk :: .junk :: .junk :: .junk :: .junk :: .junk :: .junk :: .junk :: .junk :: .junk :: .junk :: .junk :: .junk :: .junk :: .junk :: .junk :: .junk :: .junk :: .junk :: .junk :: .junk :: .junk :: .junk :: .junk :: .junk :: .junk :: .junk :: .junk :: .junk :: .junk :: .junk :: .junk :: .junk :: .junk :: .junk :: .junk :: .junk :: .junk :: .junk :: .junk :: []) [.box [.d (.int .i64 al), .d (.int .i64 st), .d (.ivs l.length (edgesD l))], .box [.d (.int .i64 al2), .d (.int .i64 st), .sl 2 0 0 l2.length], .arr (edgesD l2) 3 0] k
    = k (.exit 0) (.junk :: .junk :: .d (.bool false) :: .ptr 0 0 0 :: .d (.int .i64 x) :: .d (.int .i64 y) :: .ptr 1 0 0 :: .junk :: .junk :: .junk :: .d (.int .i64 iE) :: .junk :: .junk :: .junk :: .junk :: .junk :: .junk :: .junk :: .junk :: .junk :: .junk :: .junk :: .junk :: .junk :: .junk :: .junk :: .junk :: .junk :: .junk :: .junk :: .junk :: .junk :: .junk :: .junk :: .junk :: .junk :: .junk :: .junk :: .junk :: .junk :: .junk :: .junk :: .junk :: .junk :: .junk :: .junk :: .junk :: .junk :: .junk :: .junk :: .junk :: .junk :: .junk :: .junk :: .junk :: .junk :: .junk :: .junk :: .junk :: .junk :: .junk :: .junk :: .junk :: .junk :: .junk :: .junk :: .junk :: .junk :: .junk :: .junk :: .junk :: .junk :: .junk :: .junk :: .junk :: .junk :: .junk :: .junk :: .junk :: .junk :: .junk :: .junk :: .junk :: .junk :: .junk :: .junk :: .junk :: .junk :: .junk :: .junk :: .junk :: .junk :: .junk :: .junk :: .junk :: .junk :: .junk :: .junk :: .junk :: []) [.box [.d (.int .i64 al), .d (.int .i64 st), .d (.ivs l.length (edgesD l))], .box [.d (.int .i64 al2), .d (.int .i64 st), .sl 2 0 0 l2.length], .arr (edgesD l2) 3 0])
    (hL : 2 ^ 60 ≤ L) : evCall env L n 3 [.d (.ivs c.length (bytesL c))] [] = some (.d (.bool true), []) := by
  obtain ⟨n, rfl⟩ : ∃ m, n = m + 1 := ⟨n - 1, by omega⟩
  rw [fn_FnSwapSystem]
  simp only [S_FnSwapSystem, Tryd.f3, slimF, slimL, lpOf, codeOf, Option.getD_some, slim, loops, List.length_nil, Nat.add_zero, Nat.zero_add, slimO, slimG, List.map_cons, List.map_nil, List.getElem?_cons_zero, List.getElem?_cons_succ, Option.bind_some, Bool.false_eq_true, if_false, if_true, List.length_cons, List.replicate, List.cons_append, List.nil_append, List.append_nil, Nat.reduceAdd, Nat.reduceSub, List.getD_cons_zero, List.getD_cons_succ]
  simp -implicitDefEqProofs (maxSteps := 2000000) (disch := first | assumption | (refine Shut.mk ?_; kernel_rfl) | omega | (simp only [List.getElem?_cons_zero, List.getElem?_cons_succ]; done) | (simp only [List.length_append, List.length_cons, List.length_nil, List.length_set, List.length_replicate, List.length_map, List.length_take, List.length_drop] <;> omega) | (fail)) only [↓WD, ↓kAsg, ↓kRet, ↓reduceIte, ↓clash_free, ↓WDD, ↓kOpD_callv, WK, thawAt, evPick, aPut, leavesBody, outA, outS, outSs, idsA, idsL, mapA, calmAs, calmA, calmSl, calmPt, genOf, calmH, calmFrom, calmO, mapAs, maskB, isUndef, tidy, Int.reduceLT, Int.reduceLE, Int.reduceEq, Int.reduceNe, Int.reduceNeg, Int.reduceAdd, Int.reduceSub, Int.reduceMul, Int.reduceToNat, Nat.reduceAdd, Nat.reduceSub, aBuiltin, aAppend, aAppend0, aAppendV, isVec, bears, emptyArr, sliceAs, keeps, aBuildVec, aMakeVec, sliceCells, aBuildSlice, aIndexAddr, aLoad, runOf, ofCells, TY, LB, aLen, withInt, fillA, frzL, listWith, frz, frz0, deep, cellsA, setRun, okCell, List.replicate, notJunk, Nat.reduceMul, Nat.reduceLeDiff, Nat.reducePow, Nat.reduceBEq, boxIds, aResults, aResult, outAs, tupA, evNilCheck, aMove, MD, opds, evOp, asOper, one, two, evCallee, evAssign, aNew, evSlice, evField, evExtract, evFunc, pureOp, isCall, readOp, List.range', back, putBack, fuelR, closed, aStore, thawCells, place, pack, mapO, Nat.reduceEqDiff, Nat.reduceLT, maxNeed, i64_id, frzA, frzAs, memD, lentA, footC, ↓kc_s_SwapSystem, ↓kc_agSystems, ↓kc_i_WordAt, ↓kc_i_SwapWord, ↓kc_i_StatesAfter, ↓kc_i_SystemValid, ↓kl_agSystems, ↓kl_i_StatesAfter, ↓kl_i_SystemValid, ↓kv_agSystems_1, ↓kv_agSystems_2, ↓kv_agSystems_3, ↓kv_i_StatesAfter_1, ↓kv_i_SystemValid_1, LE, hs, ↓kd, ↓kc_i_SwapSystem_d, ↓kc_i_SwapSystem_m, ↓kv_agSystems_any, hd, hb, hv2, oS_some, e0, e1, ↓loop_e]

/-- No edges at all. -/
theorem nil_rules {R : Type} {L n : Nat} {hq : H} {k : A → H → Option R} (hn : 7 ≤ n) (al st x y : Int) (hL : 2 ^ 60 ≤ L) :
    kCall env (evCall env L n) hq 7 [.agg [.d (.int .i64 al), .d (.int .i64 st), .d (.ivs 0 [])], .d (.int .i64 x), .d (.int .i64 y)] k
    = k (.tup [.agg [.d (.int .i64 (oS (swapS ⟨al, st, []⟩ x y)).al), .d (.int .i64 (oS (swapS ⟨al, st, []⟩ x y)).st), .sl hq.length 0 0 (oS (swapS ⟨al, st, []⟩ x y)).es.length], .d (.bool (swapS ⟨al, st, []⟩ x y).isSome)]) (hq ++ [.arr (edgesD (oS (swapS ⟨al, st, []⟩ x y)).es) (eL (oS (swapS ⟨al, st, []⟩ x y)).es) 0]) :=
  kc_i_SwapSystem_d hn al st x y [] (by simp) hL
theorem nil_s {R : Type} {L n : Nat} {hq : H} {k : A → H → Option R} (hn : 5 ≤ n) (al st x y : Int) (hL : 2 ^ 60 ≤ L) :
    kCall env (evCall env L n) hq 8 [.agg [.d (.int .i64 al), .d (.int .i64 st), .d (.ivs 0 [])], .d (.int .i64 x), .d (.int .i64 y)] k = k (.tup [.agg [.d (.int .i64 (oS (swapS ⟨al, st, []⟩ x y)).al), .d (.int .i64 (oS (swapS ⟨al, st, []⟩ x y)).st), .d (.ivs (oS (swapS ⟨al, st, []⟩ x y)).es.length (edgesD (oS (swapS ⟨al, st, []⟩ x y)).es))], .d (.bool (swapS ⟨al, st, []⟩ x y).isSome)]) hq :=
  kc_s_SwapSystem hn al st x y [] (by simp) hL
theorem nil_v {R : Type} {L n : Nat} {k : A → Option R} (hn : 6 ≤ n) (al st : Int) (hL : 2 ^ 60 ≤ L) : kLent (evCall env L n) 13 [.agg [.d (.int .i64 al), .d (.int .i64 st), .d (.ivs 0 [])]] k = k (.d (.bool (sysOK ⟨al, st, []⟩))) :=
  kl_i_SystemValid hn al st [] (by simp) hL

theorem law_nil {L n : Nat} (hn : 30 ≤ n) (c : List UInt8) (hs : ¬ (1048576 : Int) < c.length) {al st x y al2 : Int} (kd : ∀ (R : Type) (L n : Nat) (hq : H) (k : A → H → Option R), 16 ≤ n → 2 ^ 60 ≤ L → kCall env (evCall env L n) hq 6 [.d (.ivs c.length (bytesL c))] k = k (.tup [.agg [.d (.int .i64 al), .d (.int .i64 st), .d (.ivs 0 [])], .d (.int .i64 x), .d (.int .i64 y)]) hq) (hd : swapS ⟨al, st, []⟩ x y = some ⟨al2, st, []⟩) (hb : swapS ⟨al2, st, []⟩ x y = some ⟨al, st, []⟩) (hv2 : sysOK ⟨al2, st, []⟩ = true)
    {iE : Int} (loop_e : ∀ {R : Type} {n : Nat} {k : Exit → List A → H → Option R} (hn : 9 ≤ n),
    kLoop env (evCall env L n) L 0 [] (false :: false :: true :: true :: true :: true :: true :: false :: false :: false :: true :: false :: false :: false :: false :: false :: false :: false :: false :: false :: false :: false :: false :: false :: false :: false :: false :: false :: false :: false :: false :: false :: false :: false :: false :: false :: false :: false :: false :: false :: false :: false :: false :: false :: false :: false :: false :: false :: false :: false :: false :: false :: false :: false :: false :: false :: false :: false :: false :: false :: false :: false :: false :: false :: false :: false :: false :: false :: false :: false :: false :: false :: false :: false :: false :: false :: false :: false :: false :: false :: false :: false :: false :: false :: false :: false :: false :: false :: false :: false :: false :: false :: false :: false :: false :: false :: false :: false :: false :: []) (lp_FnSwapSystem 0) (true :: true :: false :: false :: false :: false :: false :: true :: true :: true :: false :: true :: true :: true :: true :: true :: true :: true :: true :: true :: true :: true :: true :: true :: true :: true :: true :: true :: true :: true :: true :: true :: true :: true :: true :: true :: true :: true :: true :: true :: true :: true :: true :: true :: true :: true :: true :: true :: true :: true :: true :: true :: true :: true :: true :: true :: true :: true :: true :: true :: true :: true :: true :: true :: true :: true :: true :: true :: true :: true :: true :: true :: true :: true :: true :: true :: true :: true :: true :: true :: true :: true :: true :: true :: true :: true :: true :: true :: true :: true :: true :: true :: true :: true :: true :: true :: true :: true :: true :: []) L (.junk :: .junk :: .d (.bool false) :: .ptr 0 0 0 :: .d (.int .i64 x) :: .d (.int .i64 y) :: .ptr 1 0 0 :: .junk :: .junk :: .junk :: .d (.int .i64 0) :: .junk :: .junk :: .junk :: .junk :: .junk :: .junk :: .junk :: .junk :: .junk :: .junk :: .junk :: .junk :: .junk :: .junk :: .junk :: .junk :: .junk :: .junk :: .junk :: .junk :: .junk :: .junk :: .junk :: .junk :: .junk :: .junk :: .junk :: .junk :: .junk :: .junk :: .junk :: .junk :: .junk :: .junk :: .junk :: .junk :: .junk :: .junk :: .junk :: .junk :: .junk :: .junk :: .junk :: .junk :: .junk :: .junk :: .junk :: .junk :: .junk :: .junk :: .junk :: .junk :: .junk :: .junk :: .junk :: .junk :: .junk :: .junk :: .junk :: .junk :: .junk :: .junk :: .junk :: .junk :: .junk :: .junk :: .junk :: .junk :: .junk :: .junk :: .junk :: .junk :: .junk :: .junk :: .junk :: .junk :: .junk :: .junk :: .junk :: .junk :: .junk :: .junk :: .junk :: .junk :: .junk :: .junk :: .junk :: .junk :: []) [.box [.d (.int .i64 al), .d (.int .i64 st), .d (.ivs 0 [])], .box [.d (.int .i64 al2), .d (.int .i64 st), .sl 2 0 0 0], .arr [] 0 0] k
    = k (.exit 0) (.junk :: .junk :: .d (.bool false) :: .ptr 0 0 0 :: .d (.int .i64 x) :: .d (.int .i64 y) :: .ptr 1 0 0 :: .junk :: .junk :: .junk :: .d (.int .i64 iE) :: .junk :: .junk :: .junk :: .junk :: .junk :: .junk :: .junk :: .junk :: .junk :: .junk :: .junk :: .junk :: .junk :: .junk :: .junk :: .junk :: .junk :: .junk :: .junk :: .junk :: .junk :: .junk :: .junk :: .junk :: .junk :: .junk :: .junk :: .junk :: .junk :: .junk :: .junk :: .junk :: .junk :: .junk :: .junk :: .junk :: .junk :: .junk :: .junk :: .junk :: .junk :: .junk :: .junk :: .junk :: .junk :: .junk :: .junk :: .junk :: .junk :: .junk :: .junk :: .junk :: .junk :: .junk :: .junk :: .junk :: .junk :: .junk :: .junk :: .junk :: .junk :: .junk :: .junk :: .junk :: .junk :: .junk :: .junk :: .junk :: .junk :: .junk :: .junk :: .junk :: .junk :: .junk :: .junk :: .junk :: .junk :: .junk :: .junk :: .junk :: .junk :: .junk :: .junk :: .junk :: .junk :: .junk :: .junk :: .junk :: []) [.box [.d (.int .i64 al), .d (.int .i64 st), .d (.ivs 0 [])], .box [.d (.int .i64 al2), .d (.int .i64 st), .sl 2 0 0 0], .arr [] 0 0])
    (hL : 2 ^ 60 ≤ L) : evCall env L n 3 [.d (.ivs c.length (bytesL c))] [] = some (.d (.bool true), []) := by
  have e0 : eL [] = 0 := rfl
  have kc_n := @nil_rules
  have kc_s := @nil_s
  have kl_v := @nil_v
  obtain ⟨n, rfl⟩ : ∃ m, n = m + 1 := ⟨n - 1, by omega⟩
  rw [fn_FnSwapSystem]
  simp only [S_FnSwapSystem, Tryd.f3, slimF, slimL, lpOf, codeOf, Option.getD_some, slim, loops, List.length_nil, Nat.add_zero, Nat.zero_add, slimO, slimG, List.map_cons, List.map_nil, List.getElem?_cons_zero, List.getElem?_cons_succ, Option.bind_some, Bool.false_eq_true, if_false, if_true, List.length_cons, List.replicate, List.cons_append, List.nil_append, List.append_nil, Nat.reduceAdd, Nat.reduceSub, List.getD_cons_zero, List.getD_cons_succ]
  simp -implicitDefEqProofs (maxSteps := 2000000) (disch := first | assumption | (refine Shut.mk ?_; kernel_rfl) | omega | (simp only [List.getElem?_cons_zero, List.getElem?_cons_succ]; done) | (simp only [List.length_append, List.length_cons, List.length_nil, List.length_set, List.length_replicate, List.length_map, List.length_take, List.length_drop] <;> omega) | (fail)) only [↓WD, ↓kAsg, ↓kRet, ↓reduceIte, ↓clash_free, ↓WDD, ↓kOpD_callv, WK, thawAt, evPick, aPut, leavesBody, outA, outS, outSs, idsA, idsL, mapA, calmAs, calmA, calmSl, calmPt, genOf, calmH, calmFrom, calmO, mapAs, maskB, isUndef, tidy, Int.reduceLT, Int.reduceLE, Int.reduceEq, Int.reduceNe, Int.reduceNeg, Int.reduceAdd, Int.reduceSub, Int.reduceMul, Int.reduceToNat, Nat.reduceAdd, Nat.reduceSub, aBuiltin, aAppend, aAppend0, aAppendV, isVec, bears, emptyArr, sliceAs, keeps, aBuildVec, aMakeVec, sliceCells, aBuildSlice, aIndexAddr, aLoad, runOf, ofCells, TY, LB, aLen, withInt, fillA, frzL, listWith, frz, frz0, deep, cellsA, setRun, okCell, List.replicate, notJunk, Nat.reduceMul, Nat.reduceLeDiff, Nat.reducePow, Nat.reduceBEq, boxIds, aResults, aResult, outAs, tupA, evNilCheck, aMove, MD, opds, evOp, asOper, one, two, evCallee, evAssign, aNew, evSlice, evField, evExtract, evFunc, pureOp, isCall, readOp, List.range', back, putBack, fuelR, closed, aStore, thawCells, place, pack, mapO, Nat.reduceEqDiff, Nat.reduceLT, maxNeed, i64_id, frzA, frzAs, memD, lentA, footC, ↓kc_s_SwapSystem, ↓kc_agSystems, ↓kc_i_WordAt, ↓kc_i_SwapWord, ↓kc_i_StatesAfter, ↓kc_i_SystemValid, ↓kl_agSystems, ↓kl_i_StatesAfter, ↓kl_i_SystemValid, ↓kv_agSystems_1, ↓kv_agSystems_2, ↓kv_agSystems_3, ↓kv_i_StatesAfter_1, ↓kv_i_SystemValid_1, LE, hs, ↓kd, ↓kc_n, ↓kc_s, ↓kl_v, ↓kc_i_SwapSystem_0, ↓kv_agSystems_any, ↓kl_agSystems_nil, hd, hb, hv2, oS_some, e0, edgesD_nil, ↓loop_e]

theorem ev_FnSwapSystem {L n : Nat} (hn : 30 ≤ n) (c : List UInt8) (hL : 2 ^ 60 ≤ L) : evCall env L n 3 [.d (.ivs c.length (bytesL c))] [] = some (.d (.bool true), []) := by
  by_cases hs : (1048576 : Int) < c.length
  · obtain ⟨n, rfl⟩ : ∃ m, n = m + 1 := ⟨n - 1, by omega⟩
    rw [fn_FnSwapSystem]
    simp only [S_FnSwapSystem, Tryd.f3, slimF, slimL, lpOf, codeOf, Option.getD_some, slim, loops, List.length_nil, Nat.add_zero, Nat.zero_add, slimO, slimG, List.map_cons, List.map_nil, List.getElem?_cons_zero, List.getElem?_cons_succ, Option.bind_some, Bool.false_eq_true, if_false, if_true, List.length_cons, List.replicate, List.cons_append, List.nil_append, List.append_nil, Nat.reduceAdd, Nat.reduceSub, List.getD_cons_zero, List.getD_cons_succ]
    simp -implicitDefEqProofs (maxSteps := 2000000) (disch := first | assumption | (refine Shut.mk ?_; kernel_rfl) | omega | (simp only [List.getElem?_cons_zero, List.getElem?_cons_succ]; done) | (simp only [List.length_append, List.length_cons, List.length_nil, List.length_set, List.length_replicate, List.length_map, List.length_take, List.length_drop] <;> omega) | (fail)) only [↓WD, ↓kAsg, ↓kRet, ↓reduceIte, ↓clash_free, ↓WDD, ↓kOpD_callv, WK, thawAt, evPick, aPut, leavesBody, outA, outS, outSs, idsA, idsL, mapA, calmAs, calmA, calmSl, calmPt, genOf, calmH, calmFrom, calmO, mapAs, maskB, isUndef, tidy, Int.reduceLT, Int.reduceLE, Int.reduceEq, Int.reduceNe, Int.reduceNeg, Int.reduceAdd, Int.reduceSub, Int.reduceMul, Int.reduceToNat, Nat.reduceAdd, Nat.reduceSub, aBuiltin, aAppend, aAppend0, aAppendV, isVec, bears, emptyArr, sliceAs, keeps, aBuildVec, aMakeVec, sliceCells, aBuildSlice, aIndexAddr, aLoad, runOf, ofCells, TY, LB, aLen, withInt, fillA, frzL, listWith, frz, frz0, deep, cellsA, setRun, okCell, List.replicate, notJunk, Nat.reduceMul, Nat.reduceLeDiff, Nat.reducePow, Nat.reduceBEq, boxIds, aResults, aResult, outAs, tupA, evNilCheck, aMove, MD, opds, evOp, asOper, one, two, evCallee, evAssign, aNew, evSlice, evField, evExtract, evFunc, pureOp, isCall, readOp, List.range', back, putBack, fuelR, closed, aStore, thawCells, place, pack, mapO, Nat.reduceEqDiff, Nat.reduceLT, maxNeed, i64_id, frzA, frzAs, memD, lentA, footC, ↓kc_s_SwapSystem, ↓kc_agSystems, ↓kc_i_WordAt, ↓kc_i_SwapWord, ↓kc_i_StatesAfter, ↓kc_i_SystemValid, ↓kl_agSystems, ↓kl_i_StatesAfter, ↓kl_i_SystemValid, ↓kv_agSystems_1, ↓kv_agSystems_2, ↓kv_agSystems_3, ↓kv_i_StatesAfter_1, ↓kv_i_SystemValid_1, hs]
  · obtain ⟨al, st, l, x, y, hl, kd⟩ := ex_DrawSwapSystem c (by omega)
    have hl3 : l.length ≤ 4294967296 := by omega
    cases hd : swapS ⟨al, st, l⟩ x y with
    | none => exact law_none hn c hs hl3 kd hd hL
    | some s2 =>
      have hd' := hd
      unfold swapS at hd'
      split at hd'
      · rename_i hcond
        simp only [Bool.and_eq_true] at hcond
        obtain ⟨⟨hv, hx⟩, hy⟩ := hcond
        have hv2 := swap_valid hv hx hy
        have hb := swap_back hv hx hy
        have hsw := fun w hw => swap_states (w := w) hv hx hy hw
        have hlen : (sortE (l.map (swapE x y))).length = l.length := by rw [sortE_len, List.length_map]
        cases hd'
        have hl2 : (sortE (l.map (swapE x y))).length ≤ 80000 := by omega
        generalize sortE (l.map (swapE x y)) = l2 at *
        generalize swapAlpha al x y = al2 at *
        have hl4 : l2.length ≤ 4294967296 := by omega
        rcases eL_cases l with ⟨_, rfl⟩ | e1
        · obtain rfl : l2 = [] := List.length_eq_zero_iff.1 (by simpa using hlen)
          exact law_nil hn c hs kd hd hb hv2 (fun {R n k} hn9 => by
            have := @loop_FnSwapSystem R L n hn9 hL al st x y al2 st [] [] 0 hl hl2 (.inl ⟨rfl, rfl⟩) hsw k 40 0 L (by omega) (by omega)
            exact this) hL
        · have e0 : eL l2 = 3 := by
            rcases eL_cases l2 with ⟨_, rfl⟩ | e
            · have : l = [] := List.length_eq_zero_iff.1 (by simpa using hlen.symm)
              rw [this] at e1
              cases e1
            · exact e
          exact law_some hn c hs hl3 hl4 kd hd hb hv2 e0 e1 (fun {R n k} hn9 => by
            have := @loop_FnSwapSystem R L n hn9 hL al st x y al2 st l l2 3 hl hl2 (.inr rfl) hsw k 40 0 L (by omega) (by omega)
            exact this) hL
      · cases hd'

end Ev
end Go.Proofs.YtojaohcpgelhmaaDoor
end
