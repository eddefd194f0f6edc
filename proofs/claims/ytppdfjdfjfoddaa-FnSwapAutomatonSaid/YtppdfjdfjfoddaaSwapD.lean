/-
  Letters and words exchanged: plain laws.
-/
import Derived.Test.YtppdfjdfjfoddaaDraw2
import Derived.Test.YtppdfjdfjfoddaaAutH
import Derived.Test.YtppdfjdfjfoddaaWords
import Derived.Test.YtppdfjdfjfoddaaBlock
section
set_option linter.unusedSimpArgs false
set_option linter.unusedVariables false
set_option maxRecDepth 8000
set_option maxHeartbeats 4000000
namespace Go.Proofs.Ytppdfjdfjfoddaa
namespace Ev
theorem ltr_byteI {l : Int} (h0 : 0 ≤ l) (h : l ≤ 5) : ltr (byteI l) = l := by
 unfold ltr byteI
 rw [UInt8.toNat_ofNat']
 omega
theorem okB_bounds {b : UInt8} (h : okB b = true) : 0 ≤ ltr b ∧ ltr b ≤ 5 := isLet_iff.1 h
theorem swapB_ltr {x y : Int} {b : UInt8} (hb : okB b = true) (hx : isLet x = true) (hy : isLet y = true) : ltr (swapB x y b) = swapI (ltr b) x y := by
 have h1 := okB_bounds hb
 have h2 := isLet_iff.1 hx
 have h3 := isLet_iff.1 hy
 exact ltr_byteI (swapI_let h1.1 h2.1 h3.1) (swapI_le h1.2 h2.2 h3.2)
theorem swapB_ok {x y : Int} {b : UInt8} (hb : okB b = true) (hx : isLet x = true) (hy : isLet y = true) : okB (swapB x y b) = true := by
 have h1 := okB_bounds hb
 have h2 := isLet_iff.1 hx
 have h3 := isLet_iff.1 hy
 unfold okB
 rw [swapB_ltr hb hx hy]
 exact isLet_iff.2 ⟨swapI_let h1.1 h2.1 h3.1, swapI_le h1.2 h2.2 h3.2⟩
theorem swapWord_map {w : List UInt8} {x y : Int} (hw : wordOK w = true) (hx : isLet x = true) (hy : isLet y = true) : swapWord w x y = w.map (swapB x y) := by
 unfold swapWord; simp [hw, hx, hy]
end Ev
end Go.Proofs.Ytppdfjdfjfoddaa
end

/-!
  Automata with exchanged letters: plain laws.
-/
section
namespace Go.Proofs.Ytppdfjdfjfoddaa
namespace Ev
theorem autOK_of {al : Int} {rs : List (List Int)} {ac : List Bool} (ha : isAlpha al = true) (h1 : 1 ≤ rs.length) (h2 : rs.length ≤ 12) (h3 : ac.length = rs.length) (hr : ∀ r ∈ rs, r.length = (letters al).length ∧ ∀ q ∈ r, 0 ≤ q ∧ q < rs.length) : autOK al rs ac = true := by
 unfold autOK
 simp only [Bool.and_eq_true, decide_eq_true_eq]
 refine ⟨⟨⟨⟨ha, by omega⟩, by omega⟩, by omega⟩, ?_⟩
 rw [Option.isNone_iff_eq_none, seek_none]
 intro i _ hi
 have hi : i < rs.length := by omega
 obtain ⟨hw, hq⟩ := hr (rs.getD i []) (by rw [List.getD_eq_getElem?_getD, List.getElem?_eq_getElem hi]; exact List.getElem_mem hi)
 unfold rowBadAt
 rw [rowBad_s (by omega)]
 have : seek (badQ rs.length (rs.getD i [])) (rs.getD i []).length 0 = none := by
  rw [seek_none]
  intro j _ hj
  have hj : j < (rs.getD i []).length := by omega
  rw [badQ_false]
  refine hq _ ?_
  generalize rs.getD i [] = r at *
  rw [List.getD_eq_getElem?_getD, List.getElem?_eq_getElem hj]
  exact List.getElem_mem hj
 rw [this]
 rfl
theorem autOK_row {al : Int} {rs : List (List Int)} {ac : List Bool} (h : autOK al rs ac = true) {i : Nat} (hi : i < rs.length) : (rs.getD i []).length = (letters al).length ∧ ∀ j, j < (letters al).length → 0 ≤ (rs.getD i []).getD j 0 ∧ (rs.getD i []).getD j 0 < rs.length := by
 have hw := wide_at (autOK_wide h) hi
 refine ⟨hw, ?_⟩
 intro j hj
 unfold autOK at h
 simp only [Bool.and_eq_true] at h
 have hb := seek_all h.2 hi
 unfold rowBadAt at hb
 rw [rowBad_s (by omega)] at hb
 have := seek_all (p := badQ rs.length (rs.getD i [])) (n := (rs.getD i []).length) (by cases hs : seek (badQ rs.length (rs.getD i [])) (rs.getD i []).length 0 with
  | none => rfl
  | some z => rw [hs] at hb; cases hb) (i := j) (by omega)
 exact badQ_false.1 this
theorem autOK_go {al : Int} {rs : List (List Int)} {ac : List Bool} (h : autOK al rs ac = true) {q l : Int} (hq0 : 0 ≤ q) (hq1 : q < rs.length) (h0 : 0 ≤ l) (h1 : l < 6) : 0 ≤ goI al rs q l ∧ goI al rs q l < rs.length := by
 unfold goI
 split
 ·rename_i hb
  exact (autOK_row h (i := q.toNat) (by omega)).2 _ (place_lt6 h0 h1 hb).1
 ·exact ⟨hq0, hq1⟩
theorem let_iff6 {l : Int} : isLet l = true ↔ 0 ≤ l ∧ l < 6 := by unfold isLet; simp
theorem rowsSw_get {al al2 : Int} {rs : List (List Int)} {x y : Int} {q l : Int} (hq0 : 0 ≤ q) (hq1 : q < rs.length) (h0 : 0 ≤ l) (h1 : l < 6) (hb : bitAt al2 l = true) :
  goI al2 (rowsSw al rs x y (letters al2) 0 rs.length) q l = goI al rs q (swapI l x y) := by
 rw [goI_bit hb]
 have hk : q.toNat < rs.length := by omega
 obtain ⟨p1, p2⟩ := place_lt6 h0 h1 hb
 have e1 : (rowsSw al rs x y (letters al2) 0 rs.length).getD q.toNat [] = rowSw al rs x y (letters al2) q := by
  unfold rowsSw
  rw [List.getD_eq_getElem?_getD, List.getElem?_map, List.getElem?_range' hk]
  simp only [Option.map_some, Option.getD_some, Nat.zero_add, Nat.one_mul]
  rw [Int.toNat_of_nonneg hq0]
 rw [e1]
 unfold rowSw
 rw [List.getD_eq_getElem?_getD, List.getElem?_map, p2]
 rfl
theorem swap_aut_valid {al x y : Int} {rs : List (List Int)} {ac : List Bool} (h : autOK al rs ac = true) (hx : isLet x = true) (hy : isLet y = true) : autOK (swapAlpha al x y) (rowsSw al rs x y (letters (swapAlpha al x y)) 0 rs.length) ac = true := by
 obtain ⟨h1, h2, h3, ha⟩ := autOK_len h
 refine autOK_of (swapAlpha_alpha ha hx hy) (by rw [rowsSw_len]; exact h1) (by rw [rowsSw_len]; exact h2) (by rw [rowsSw_len]; exact h3) ?_
 intro r hr
 unfold rowsSw at hr
 obtain ⟨q, hq, rfl⟩ := List.mem_map.1 hr
 rw [List.mem_range'_1] at hq
 refine ⟨rowSw_len, ?_⟩
 intro z hz
 unfold rowSw at hz
 obtain ⟨l, hl, rfl⟩ := List.mem_map.1 hz
 rw [rowsSw_len]
 have hl2 := let_iff6.1 (swapI_isLet (let_iff6.2 (letters_mem.1 hl).1) hx hy)
 exact autOK_go h (by omega) (by omega) hl2.1 hl2.2
theorem list_of_getD {l m : List Int} (hl : l.length = m.length) (h : ∀ i, i < l.length → l.getD i 0 = m.getD i 0) : l = m := by
 apply List.ext_getElem hl
 intro i h1 h2
 have := h i h1
 simpa [List.getD_eq_getElem?_getD, h1, h2] using this
theorem swap_aut_back {al x y : Int} {rs : List (List Int)} {ac : List Bool} (h : autOK al rs ac = true) (hx : isLet x = true) (hy : isLet y = true) : rowsSw (swapAlpha al x y) (rowsSw al rs x y (letters (swapAlpha al x y)) 0 rs.length) x y (letters al) 0 rs.length = rs := by
 obtain ⟨h1, h2, h3, ha⟩ := autOK_len h
 apply List.ext_getElem (by rw [rowsSw_len])
 intro i hi hi2
 rw [rowsSw_len] at hi
 have hrow := autOK_row h hi
 have e1 : (rowsSw (swapAlpha al x y) (rowsSw al rs x y (letters (swapAlpha al x y)) 0 rs.length) x y (letters al) 0 rs.length)[i]'(by rw [rowsSw_len]; exact hi) = rowSw (swapAlpha al x y) (rowsSw al rs x y (letters (swapAlpha al x y)) 0 rs.length) x y (letters al) (i : Int) := by
  unfold rowsSw
  simp
 rw [e1]
 have hg : rs.getD i [] = rs[i] := by rw [List.getD_eq_getElem?_getD, List.getElem?_eq_getElem hi2]; rfl
 rw [hg] at hrow
 refine list_of_getD (by rw [rowSw_len]; exact hrow.1.symm) ?_
 intro j hj
 rw [rowSw_len] at hj
 have hm : (letters al)[j] ∈ letters al := List.getElem_mem hj
 obtain ⟨hl, hb⟩ := letters_mem.1 hm
 have hlet := let_iff6.2 hl
 have hs := swapI_isLet hlet hx hy
 have hs6 := let_iff6.1 hs
 unfold rowSw
 rw [List.getD_eq_getElem?_getD, List.getElem?_map, List.getElem?_eq_getElem hj]
 simp only [Option.map_some, Option.getD_some]
 rw [rowsSw_get (by omega) (by omega) hs6.1 hs6.2 (by rw [swapAlpha_bit ha hx hy hs, swapI_twice]; exact hb), swapI_twice, goI_bit hb]
 obtain ⟨p1, p2⟩ := place_lt6 hl.1 hl.2 hb
 have hp : placeI al (letters al)[j] = j := by
  have hq := (List.getElem?_eq_some_iff.1 p2).2
  have hn := List.pairwise_iff_getElem.1 (letters_nodup al)
  rcases Nat.lt_trichotomy (placeI al (letters al)[j]) j with h1 | h1 | h1
  ·exact absurd hq (hn _ _ p1 hj h1)
  ·exact h1
  ·exact absurd hq.symm (hn _ _ hj p1 h1)
 rw [hp]
 simp only [Int.toNat_natCast, hg]
def stGo (al : Int) (rs : List (List Int)) (w : List UInt8) (q : Int) : Int := w.foldl (fun q b => goI al rs q (ltr b)) q
def stateAfter (al : Int) (rs : List (List Int)) (ac : List Bool) (w : List UInt8) : Int := if autOK al rs ac && wordIn al w then stGo al rs w 0 else -1
theorem wordIn_at {al : Int} {w : List UInt8} (hw : wordIn al w = true) : isAlpha al = true ∧ w.length ≤ 50000 ∧ ∀ b ∈ w, okB b = true ∧ bitAt al (ltr b) = true := by
 unfold wordIn at hw
 simp only [Bool.and_eq_true, decide_eq_true_eq] at hw
 refine ⟨hw.1.1, hw.1.2, ?_⟩
 intro b hb
 have := List.all_eq_true.1 hw.2 b hb
 unfold inB at this
 simpa only [Bool.and_eq_true] using this
theorem swap_stGo {al x y : Int} {rs : List (List Int)} {ac : List Bool} (h : autOK al rs ac = true) (hx : isLet x = true) (hy : isLet y = true) : ∀ (w : List UInt8) (q : Int), (∀ b ∈ w, okB b = true ∧ bitAt al (ltr b) = true) → 0 ≤ q → q < rs.length →
  stGo (swapAlpha al x y) (rowsSw al rs x y (letters (swapAlpha al x y)) 0 rs.length) (w.map (swapB x y)) q = stGo al rs w q
 | [], q, _, _, _ => rfl
 | b :: w, q, hb, h0, h1 => by
  obtain ⟨_, _, _, ha⟩ := autOK_len h
  obtain ⟨b1, b2⟩ := hb b List.mem_cons_self
  have hl := let_iff6.1 b1
  have hs := swapI_isLet b1 hx hy
  have hs6 := let_iff6.1 hs
  obtain ⟨g0, g1⟩ := autOK_go h h0 h1 hl.1 hl.2
  have ih := swap_stGo h hx hy w _ (fun c hc => hb c (List.mem_cons_of_mem _ hc)) g0 g1
  unfold stGo at ih ⊢
  simp only [List.map_cons, List.foldl_cons]
  rw [swapB_ltr b1 hx hy, rowsSw_get h0 h1 hs6.1 hs6.2 (by rw [swapAlpha_bit ha hx hy hs, swapI_twice]; exact b2), swapI_twice]
  exact ih
theorem swap_wordIn {al x y : Int} {w : List UInt8} (hx : isLet x = true) (hy : isLet y = true) (hw : wordIn al w = true) : swapWord w x y = w.map (swapB x y) ∧ wordIn (swapAlpha al x y) (w.map (swapB x y)) = true := by
 obtain ⟨ha, hlen, hin⟩ := wordIn_at hw
 have hok : wordOK w = true := by
  unfold wordOK
  simp only [Bool.and_eq_true, decide_eq_true_eq, List.all_eq_true]
  exact ⟨hlen, fun b hb => (hin b hb).1⟩
 refine ⟨swapWord_map hok hx hy, ?_⟩
 unfold wordIn
 simp only [Bool.and_eq_true, decide_eq_true_eq, List.length_map, List.all_eq_true, List.mem_map]
 refine ⟨⟨swapAlpha_alpha ha hx hy, hlen⟩, ?_⟩
 rintro b ⟨b0, hb0, rfl⟩
 obtain ⟨h1, h2⟩ := hin b0 hb0
 unfold inB
 rw [swapB_ok h1 hx hy, swapB_ltr h1 hx hy, swapAlpha_bit ha hx hy (swapI_isLet h1 hx hy), swapI_twice, h2]
 rfl
theorem swap_stateAfter {al x y : Int} {rs : List (List Int)} {ac : List Bool} {w : List UInt8} (h : autOK al rs ac = true) (hx : isLet x = true) (hy : isLet y = true) (hw : wordIn al w = true) :
  stateAfter (swapAlpha al x y) (rowsSw al rs x y (letters (swapAlpha al x y)) 0 rs.length) ac (swapWord w x y) = stateAfter al rs ac w := by
 obtain ⟨e1, e2⟩ := swap_wordIn hx hy hw
 obtain ⟨h1, _, _, _⟩ := autOK_len h
 unfold stateAfter
 rw [e1, e2, swap_aut_valid h hx hy, h, hw]
 simp only [Bool.and_self, if_true]
 exact swap_stGo h hx hy w 0 (wordIn_at hw).2.2 (by omega) (by omega)
end Ev
end Go.Proofs.Ytppdfjdfjfoddaa
end

/-!
  The state after a word.
-/
section
set_option linter.unusedSimpArgs false
set_option linter.unusedVariables false
set_option maxRecDepth 8000
set_option maxHeartbeats 4000000
namespace Go.Proofs.Ytppdfjdfjfoddaa
namespace Ev
theorem stGo_go {al q : Int} {rs : List (List Int)} {w : List UInt8} {i : Nat} (h : i < w.length) : stGo al rs (w.drop i) q = stGo al rs (w.drop (i + 1)) (goI al rs q (ltr (w.getD i 0))) := by
 rw [drop_go h (d := 0)]
 rfl
theorem xjq {R : Type} {L n : Nat} (hn : 1 ≤ n) {al : Int} {rs : List (List Int)} {ac : List Bool} {w : List UInt8} (hok : autOK al rs ac = true) (hw : wordIn al w = true) {k : Exit → List A → H → Option R} : ∀ (i q : Int) (m : Nat) (h0 : 0 ≤ i) (hi : i ≤ w.length) (hm : (w.length : Int) - i < m) (hq0 : 0 ≤ q) (hq1 : q < rs.length),
  kLoop env (evCall env L n) L 0 [] (Z1 (U1 (Z2 (U2 (U1 (Z8 (Z4 (Z2 (U2 (Z8 (Z4 ([])))))))))))) (x63 0) (U1 (Z1 (U2 (Z2 (Z1 (U8 (U4 (U2 (Z2 (U8 (U4 ([])))))))))))) m (Y1 (.d (.str w) :: Y2 (.d (.int .i64 0) :: .d (.ivs rs.length (ints (tableL al rs))) :: .d (.int .i64 q) :: Y8 (Y4 (Y2 (.d (.int .i64 (w.length)) :: .d (.int .i64 i) :: Y8 (Y4 ([])))))))) [] k
  = k (.exit 0) (Y1 (.d (.str w) :: Y2 (.d (.int .i64 0) :: .d (.ivs rs.length (ints (tableL al rs))) :: .d (.int .i64 ((stGo al rs (w.drop i.toNat) q))) :: Y8 (Y4 (Y2 (.d (.int .i64 (w.length)) :: .d (.int .i64 (w.length)) :: Y8 (Y4 ([])))))))) [] := by
 intro i q m h0 hi hm hq0 hq1
 have htl := tableL_len al rs
 have hlen := autOK_len hok
 obtain ⟨hal, hwl, hin⟩ := wordIn_at hw
 obtain ⟨j, hj⟩ : ∃ j : Nat, (j : Int) = (w.length : Int) - i := ⟨((w.length : Int) - i).toNat, by omega⟩
 induction j generalizing i q m with
 | zero =>
  obtain ⟨m, rfl⟩ : ∃ q, m = q + 1 := ⟨m - 1, by omega⟩
  obtain rfl : i = w.length := by omega
  rw [xb3]
  simp only [x9n, Try.f13, SLM, simprocAttr]
  simp -implicitDefEqProofs (maxSteps := 2000000) (disch := first | assumption | (refine Shut.mk ?_; kernel_rfl) | omega | (simp only [GT]; done) | (simp only [LN] <;> omega) | fail) only [↓DN, ↓kAsg, ↓kRet, UP, simprocAttr, ↓x9, ↓x55, ↓x1p, ↓x13, ↓xa, ↓x7, ↓x5, ↓x6, LA, Int.lt_irrefl]
  simp only [Int.toNat_natCast, List.drop_length, stGo, List.foldl_nil]
 | succ j ih =>
  obtain ⟨m, rfl⟩ : ∃ q, m = q + 1 := ⟨m - 1, by omega⟩
  have hc : i < w.length := by omega
  have hk : i.toNat < w.length := by omega
  have hb : w.getD i.toNat 0 ∈ w := by rw [List.getD_eq_getElem?_getD, List.getElem?_eq_getElem hk]; exact List.getElem_mem hk
  obtain ⟨hb1, hb2⟩ := hin _ hb
  have hl6 := let_iff6.1 hb1
  have hg := autOK_go hok hq0 hq1 hl6.1 hl6.2
  have e1 : (i + 1).toNat = i.toNat + 1 := by omega
  have ih' := ih (i + 1) (goI al rs q (ltr (w.getD i.toNat 0))) m (by omega) (by omega) (by omega) hg.1 hg.2 (by omega)
  have hb3 : isLet (ltr (w.getD i.toNat 0)) = true := hb1
  have hl0 := hl6.1
  have hl1 := hl6.2
  have hcl : (ltr (w.getD i.toNat 0)).toNat ≤ (List.drop (q.toNat * 6) (ints (tableL al rs))).length := by rw [List.length_drop, ints_length, htl]; omega
  rw [stGo_go hk, ← e1]
  clear ih hg hl6 hb hin hw hok
  rw [xb3]
  simp only [x9n, Try.f13, SLM, simprocAttr]
  simp -implicitDefEqProofs (maxSteps := 2000000) (disch := first | assumption | (refine Shut.mk ?_; kernel_rfl) | omega | (simp only [GT]; done) | (simp only [LN] <;> omega) | fail) only [↓DN, ↓kAsg, ↓kRet, UP, simprocAttr, ↓x9, ↓x55, ↓x1p, ↓x13, ↓xa, ↓x7, ↓x5, ↓x6, LA, hc, hb3, u_ints, c_int, u_t6, u_a6, c_a6, u_int, t6_head, htl, ints_take, ints_length, if_true, ↓ih']
theorem xes {L n : Nat} (hn : 5 ≤ n) (al : Int) (rs : List (List Int)) (ac : List Bool) (w : List UInt8) (hs : rowsShort rs) (ha : ac.length ≤ 4294967296) (hwl : w.length ≤ 4294967295) (hL : 2 ^ 60 ≤ L) : evCall env L n 13 [.agg [.d (.int .i64 al), .d (.ivs rs.length (rowsD rs)), .d (.ivs ac.length (bools ac))], .d (.str w)] [] = some (.d (.int .i64 (stateAfter al rs ac w)), []) := by
 have hl := hs.1
 unfold stateAfter
 cases hv : autOK al rs ac with
 | false =>
  obtain ⟨n, rfl⟩ : ∃ m, n = m + 1 := ⟨n - 1, by omega⟩
  rw [xa8]
  simp only [x82, Try.f13, SLM, simprocAttr]
  simp -implicitDefEqProofs (maxSteps := 2000000) (disch := first | assumption | (refine Shut.mk ?_; kernel_rfl) | omega | (simp only [GT]; done) | (simp only [LN] <;> omega) | fail) only [↓DN, ↓kAsg, ↓kRet, UP, simprocAttr, ↓x9, ↓x55, ↓x1p, ↓x13, ↓xa, ↓x7, ↓x5, ↓x6, LA, hv, Bool.false_and, Bool.false_eq_true, if_false]
 | true =>
  cases hw : wordIn al w with
  | false =>
   obtain ⟨n, rfl⟩ : ∃ m, n = m + 1 := ⟨n - 1, by omega⟩
   rw [xa8]
   simp only [x82, Try.f13, SLM, simprocAttr]
   simp -implicitDefEqProofs (maxSteps := 2000000) (disch := first | assumption | (refine Shut.mk ?_; kernel_rfl) | omega | (simp only [GT]; done) | (simp only [LN] <;> omega) | fail) only [↓DN, ↓kAsg, ↓kRet, UP, simprocAttr, ↓x9, ↓x55, ↓x1p, ↓x13, ↓xa, ↓x7, ↓x5, ↓x6, LA, hv, hw, Bool.and_false, Bool.false_eq_true, if_false]
  | true =>
   have hwd := autOK_wide hv
   have hlen := autOK_len hv
   have loop_a := fun {R : Type} {n : Nat} (hn : 1 ≤ n) {k : Exit → List A → H → Option R} => xjq (R := R) (L := L) (n := n) hn (k := k) hv hw 0 0 L (by omega) (by omega) (by omega) (by omega) (by omega)
   simp only [Int.toNat_zero, List.drop_zero] at loop_a
   obtain ⟨n, rfl⟩ : ∃ m, n = m + 1 := ⟨n - 1, by omega⟩
   rw [xa8]
   simp only [x82, Try.f13, SLM, simprocAttr]
   simp -implicitDefEqProofs (maxSteps := 2000000) (disch := first | assumption | (refine Shut.mk ?_; kernel_rfl) | omega | (simp only [GT]; done) | (simp only [LN] <;> omega) | fail) only [↓DN, ↓kAsg, ↓kRet, UP, simprocAttr, ↓x9, ↓x55, ↓x1p, ↓x13, ↓xa, ↓x7, ↓x5, ↓x6, LA, hv, hw, Bool.and_self, if_true, ↓loop_a]
theorem x57 {R : Type} {L n : Nat} {hq : H} {k : A → H → Option R} (hn : 5 ≤ n) (al : Int) (rs : List (List Int)) (ac : List Bool) (w : List UInt8) (hs : rowsShort rs) (ha : ac.length ≤ 4294967296) (hwl : w.length ≤ 4294967295) (hL : 2 ^ 60 ≤ L) : kCall env (evCall env L n) hq 13 [.agg [.d (.int .i64 al), .d (.ivs rs.length (rowsD rs)), .d (.ivs ac.length (bools ac))], .d (.str w)] k = k (.d (.int .i64 (stateAfter al rs ac w))) hq :=
 kCall_still rfl (xes hn al rs ac w hs ha hwl hL) rfl (.inl rfl)
theorem x53 {R : Type} {L n : Nat} {k : A → Option R} (hn : 5 ≤ n) (al : Int) (rs : List (List Int)) (ac : List Bool) (w : List UInt8) (hs : rowsShort rs) (ha : ac.length ≤ 4294967296) (hwl : w.length ≤ 4294967295) (hL : 2 ^ 60 ≤ L) : kLent (evCall env L n) 13 [.agg [.d (.int .i64 al), .d (.ivs rs.length (rowsD rs)), .d (.ivs ac.length (bools ac))], .d (.str w)] k = k (.d (.int .i64 (stateAfter al rs ac w))) :=
 kLent_ev (xes hn al rs ac w hs ha hwl hL) rfl
theorem x3u {R : Type} {L n : Nat} {hq : H} {k : A → H → Option R} {id0 g0 o0 len0 : Nat} {al : Int} {ac : List Bool} {w : List UInt8} : kCall env (evCall env L n) hq 13 [.agg [.d (.int .i64 al), .sl id0 g0 o0 len0, .d (.ivs ac.length (bools ac))], .d (.str w)] k = match box (lentA hq [.agg [.d (.int .i64 al), .sl id0 g0 o0 len0, .d (.ivs ac.length (bools ac))], .d (.str w)]) with
  | .mk (some fs) => kLent (evCall env L n) 13 fs fun r => k r hq
  | _ => none := kCall_lent x5c
theorem x3t {R : Type} {L n : Nat} {hq : H} {k : A → H → Option R} {id1 g1 o1 len1 : Nat} {al : Int} {rs : List (List Int)} {w : List UInt8} : kCall env (evCall env L n) hq 13 [.agg [.d (.int .i64 al), .d (.ivs rs.length (rowsD rs)), .sl id1 g1 o1 len1], .d (.str w)] k = match box (lentA hq [.agg [.d (.int .i64 al), .d (.ivs rs.length (rowsD rs)), .sl id1 g1 o1 len1], .d (.str w)]) with
  | .mk (some fs) => kLent (evCall env L n) 13 fs fun r => k r hq
  | _ => none := kCall_lent x5c
theorem x3s {R : Type} {L n : Nat} {hq : H} {k : A → H → Option R} {id1 g1 o1 len1 : Nat} {id0 g0 o0 len0 : Nat} {al : Int} {w : List UInt8} : kCall env (evCall env L n) hq 13 [.agg [.d (.int .i64 al), .sl id0 g0 o0 len0, .sl id1 g1 o1 len1], .d (.str w)] k = match box (lentA hq [.agg [.d (.int .i64 al), .sl id0 g0 o0 len0, .sl id1 g1 o1 len1], .d (.str w)]) with
  | .mk (some fs) => kLent (evCall env L n) 13 fs fun r => k r hq
  | _ => none := kCall_lent x5c
end Ev
end Go.Proofs.Ytppdfjdfjfoddaa
end

/-!
  Automata with exchanged letters, the program's way, when the result is data.
-/
section
set_option linter.unusedSimpArgs false
set_option linter.unusedVariables false
set_option maxRecDepth 8000
set_option maxHeartbeats 4000000
namespace Go.Proofs.Ytppdfjdfjfoddaa
namespace Ev
theorem x92 {R : Type} {L n : Nat} (hn : 4 ≤ n) (hL : 2 ^ 60 ≤ L) {al al2 x y q : Int} {rs : List (List Int)} {z d e : Nat} {cs2 cn : List D} (hs : rowsShort rs) (hq0 : 0 ≤ q) (hq1 : q < rs.length) (hx0 : 0 ≤ x) (hx1 : x ≤ 5) (hy0 : 0 ≤ y) (hy1 : y ≤ 5) {ls : List Int} (hls : ∀ v ∈ ls, 0 ≤ v ∧ v ≤ 5) (hll : ls.length ≤ 6) {k : Exit → List A → H → Option R} : ∀ (j : Nat) (i : Int) (m : Nat) (r : List Int) (len : Nat) (h0 : 0 ≤ i) (hi : i + j = ls.length) (hm : j < m) (hr : r.length ≤ 6 - j) (hlen : len = r.length),
  kLoop env (evCall env L n) L 0 [0, 0, 0, 0, 0, 0, 0, 0, 0, 0, 0, 2] (Z1 (U2 (Z2 (Z1 (U4 (U2 (Z16 (Z8 (Z4 (Z1 (U2 (Z4 (U2 (U1 (Z16 (Z8 ([]))))))))))))))))) (x1o 1) (U1 (Z2 (U2 (U1 (Z4 (Z2 (U16 (U8 (U4 (U1 (Z2 (U4 (Z2 (Z1 (U16 (U8 ([]))))))))))))))))) m (Y1 (.d (.int .i64 x) :: .d (.int .i64 y) :: Y2 (Y1 (.ptr 0 0 0 :: .d (.bool false) :: .d (.ivs rs.length (ints (tableL al rs))) :: .ptr 1 0 0 :: .d (.int .i64 q) :: .sl 2 0 0 len :: Y16 (Y8 (Y4 (Y1 (.d (.int .i64 (rs.length)) :: .d (.int .i64 q) :: Y4 (.d (.ivs ls.length (ints ls)) :: .d (.int .i64 (ls.length)) :: .d (.int .i64 i) :: Y16 (Y8 ([]))))))))))) [.box [.d (.int .i64 0), .sl 3 0 0 0, .sl 4 0 0 0], .box [.d (.int .i64 al2), .sl 5 0 0 d, .sl 6 0 0 z], .arr (ints r) 1 0, .arr [] 0 0, .arr [] 0 0, .arr cn e 0, .arr cs2 1 0] k
  = k (.exit 2) (Y1 (.d (.int .i64 x) :: .d (.int .i64 y) :: Y2 (Y1 (.ptr 0 0 0 :: .d (.bool false) :: .d (.ivs rs.length (ints (tableL al rs))) :: .ptr 1 0 0 :: .d (.int .i64 q) :: .sl 2 0 0 (r.length + (rowSw al rs x y (ls.drop i.toNat) q).length) :: Y16 (Y8 (Y4 (Y1 (.d (.int .i64 (rs.length)) :: .d (.int .i64 q) :: Y4 (.d (.ivs ls.length (ints ls)) :: .d (.int .i64 (ls.length)) :: .d (.int .i64 (ls.length)) :: Y16 (Y8 ([]))))))))))) [.box [.d (.int .i64 0), .sl 3 0 0 0, .sl 4 0 0 0], .box [.d (.int .i64 al2), .sl 5 0 0 d, .sl 6 0 0 z], .arr (ints (r ++ rowSw al rs x y (ls.drop i.toNat) q)) 1 0, .arr [] 0 0, .arr [] 0 0, .arr cn e 0, .arr cs2 1 0] := by
 intro j
 have hrl := hs.1
 have htl := tableL_len al rs
 induction j with
 | zero =>
  intro i m r len h0 hi hm hr hlen
  obtain ⟨m, rfl⟩ : ∃ q, m = q + 1 := ⟨m - 1, by omega⟩
  obtain rfl : i = ls.length := by omega
  rw [x95]
  simp only [x70, Try.f9, SLM, simprocAttr]
  simp -implicitDefEqProofs (maxSteps := 2000000) (disch := first | assumption | (refine Shut.mk ?_; kernel_rfl) | omega | (simp only [GT]; done) | (simp only [LN] <;> omega) | fail) only [↓DN, ↓kAsg, ↓kRet, UP, simprocAttr, ↓x9, ↓xz, ↓x1p, ↓x24, ↓x3, ↓x12, ↓xa, ↓x7, ↓x5, ↓x6, LA, Int.lt_irrefl, hlen]
  simp only [Int.toNat_natCast, List.drop_length, rowSw, List.map_nil, List.append_nil, List.length_nil, Nat.add_zero]
 | succ j ih =>
  intro i m r len h0 hi hm hr hlen
  obtain ⟨m, rfl⟩ : ∃ q, m = q + 1 := ⟨m - 1, by omega⟩
  subst hlen
  have hc : i < ls.length := by omega
  have hk : i.toNat < ls.length := by omega
  have hv := getD_all hls hk
  have hs1 := swapI_let hv.1 hx0 hy0
  have hs2 := swapI_le (b := 5) hv.2 hx1 hy1
  have hs3 : swapI (ls.getD i.toNat 0) x y < 6 := by omega
  have e1 : (i + 1).toNat = i.toNat + 1 := by omega
  have hrr : (r ++ [goI al rs q (swapI (ls.getD i.toNat 0) x y)]).length ≤ 6 - j := by simp; omega
  have hr6 : r.length ≤ 6 := by omega
  have hcl : (swapI (ls.getD i.toNat 0) x y).toNat ≤ (List.drop (q.toNat * 6) (ints (tableL al rs))).length := by rw [List.length_drop, ints_length, htl]; omega
  clear hv
  rw [x95]
  simp only [x70, Try.f9, SLM, simprocAttr]
  simp -implicitDefEqProofs (maxSteps := 2000000) (disch := first | assumption | (refine Shut.mk ?_; kernel_rfl) | omega | (simp only [GT]; done) | (simp only [LN] <;> omega) | fail) only [↓DN, ↓kAsg, ↓kRet, UP, simprocAttr, ↓x9, ↓xz, ↓x1p, ↓x24, ↓x3, ↓x12, ↓xa, ↓x7, ↓x5, ↓x6, LA, hc, u_ints, c_int, u_t6, u_a6, c_a6, u_int, t6_head, htl, ints_take, ints_snoc, List.length_append, Nat.sub_self, ↓ih]
  rw [rowSw_go hk, e1]
  simp only [List.append_assoc, List.cons_append, List.nil_append, List.length_append, List.length_cons, List.length_nil, Nat.add_assoc, Nat.add_comm 1, Nat.zero_add]
theorem xfu {R : Type} {L n : Nat} (hn : 4 ≤ n) (hL : 2 ^ 60 ≤ L) {al al2 x y : Int} {rs : List (List Int)} {z : Nat} {cs2 : List D} (hs : rowsShort rs) (hx0 : 0 ≤ x) (hx1 : x ≤ 5) (hy0 : 0 ≤ y) (hy1 : y ≤ 5) {ls : List Int} (hle : ls = letters al2) (hls : ∀ v ∈ ls, 0 ≤ v ∧ v ≤ 5) (hll : ls.length ≤ 6) (ha2 : isAlpha al2 = true) {k : Exit → List A → H → Option R} : ∀ (j : Nat) (i : Int) (m : Nat) (d : List (List Int)) (len e : Nat) (h0 : 0 ≤ i) (hi : i + j = rs.length) (hm : j < m) (hd : (d.length : Int) ≤ i) (hlen : len = d.length) (he : e = eR d),
  kLoop env (evCall env L n) L 0 [0, 0, 0, 0, 0, 0, 0, 0, 0, 0, 0, 2] (Z1 (U2 (Z2 (Z1 (U4 (U2 (Z16 (Z8 (Z4 (Z1 (U2 (Z4 (U2 (U1 (Z16 (Z8 ([]))))))))))))))))) (x1o 0) (U1 (Z2 (U2 (U1 (Z4 (U16 (U8 (U4 (U2 (U1 (Z2 (U16 (U8 (U4 (U2 (U1 ([]))))))))))))))))) m (Y1 (.d (.int .i64 x) :: .d (.int .i64 y) :: Y2 (Y1 (.ptr 0 0 0 :: .d (.bool false) :: .d (.ivs rs.length (ints (tableL al rs))) :: .ptr 1 0 0 :: Y16 (Y8 (Y4 (Y2 (Y1 (.d (.int .i64 (rs.length)) :: .d (.int .i64 i) :: Y16 (Y8 (Y4 (Y2 (Y1 ([])))))))))))))) [.box [.d (.int .i64 0), .sl 2 0 0 0, .sl 3 0 0 0], .box [.d (.int .i64 al2), .sl 4 0 0 len, .sl 5 0 0 z], .arr [] 0 0, .arr [] 0 0, .arr (rowsD d) e 0, .arr cs2 1 0] k
  = k (.exit 0) (Y1 (.d (.int .i64 x) :: .d (.int .i64 y) :: Y2 (Y1 (.ptr 0 0 0 :: .d (.bool false) :: .d (.ivs rs.length (ints (tableL al rs))) :: .ptr 1 0 0 :: Y16 (Y8 (Y4 (Y2 (Y1 (.d (.int .i64 (rs.length)) :: .d (.int .i64 (rs.length)) :: Y16 (Y8 (Y4 (Y2 (Y1 ([])))))))))))))) [.box [.d (.int .i64 0), .sl 2 0 0 0, .sl 3 0 0 0], .box [.d (.int .i64 al2), .sl 4 0 0 (d ++ rowsSw al rs x y ls i.toNat j).length, .sl 5 0 0 z], .arr [] 0 0, .arr [] 0 0, .arr (rowsD (d ++ rowsSw al rs x y ls i.toNat j)) (eR (d ++ rowsSw al rs x y ls i.toNat j)) 0, .arr cs2 1 0] := by
 intro j
 have hrl := hs.1
 induction j with
 | zero =>
  intro i m d len e h0 hi hm hd hlen he
  obtain ⟨m, rfl⟩ : ∃ q, m = q + 1 := ⟨m - 1, by omega⟩
  obtain rfl : i = rs.length := by omega
  subst hlen
  subst he
  have e1 : rowsSw al rs x y ls (rs.length : Int).toNat 0 = [] := rfl
  rw [e1, List.append_nil]
  rw [x65]
  simp only [x5m, Try.f9, SLM, simprocAttr]
  simp -implicitDefEqProofs (maxSteps := 2000000) (disch := first | assumption | (refine Shut.mk ?_; kernel_rfl) | omega | (simp only [GT]; done) | (simp only [LN] <;> omega) | fail) only [↓DN, ↓kAsg, ↓kRet, UP, simprocAttr, ↓x9, ↓xz, ↓x1p, ↓x24, ↓x3, ↓x12, ↓xa, ↓x7, ↓x5, ↓x6, ↓x92, LA, Int.lt_irrefl]
 | succ j ih =>
  intro i m d len e h0 hi hm hd hlen he
  obtain ⟨m, rfl⟩ : ∃ q, m = q + 1 := ⟨m - 1, by omega⟩
  subst hlen
  have hc : i < rs.length := by omega
  have hk : i.toNat < rs.length := by omega
  have e1 : (i + 1).toNat = i.toNat + 1 := by omega
  have e2 : ((i.toNat : Nat) : Int) = i := by omega
  have loop_a := fun {R : Type} {k : Exit → List A → H → Option R} => x92 (R := R) (L := L) (n := n) hn hL (al := al) (al2 := al2) (q := i) (z := z) (cs2 := cs2) (cn := rowsD d) (e := e) (d := d.length) hs h0 hc hx0 hx1 hy0 hy1 hls hll (k := k) ls.length 0 L [] 0 (by omega) (by omega) (by omega) (by simp) rfl
  simp only [Int.toNat_zero, List.drop_zero, List.nil_append, List.length_nil, Nat.zero_add, ints_nil] at loop_a
  have hd2 : ((d ++ [rowSw al rs x y ls i]).length : Int) ≤ i + 1 := by simp; omega
  have hd3 : d.length ≤ 4294967295 := by omega
  have ht : (rowsD d).take d.length = rowsD d := rows_take (Nat.le_refl _)
  have hrw : (rowSw al rs x y ls i).length ≤ 6 := by rw [rowSw_len]; exact hll
  have he2 : 1 = eR (d ++ [rowSw al rs x y ls i]) := eR_snoc.symm
  have hl2 : d.length + 1 = (d ++ [rowSw al rs x y ls i]).length := by simp
  rw [rowsSw_succ, e2]
  subst hle
  rcases eR_or d with h1 | h1
  ·have he0 : e = 0 := by omega
   subst he0
   rw [x65]
   simp only [x5m, Try.f9, SLM, simprocAttr]
   simp -implicitDefEqProofs (maxSteps := 2000000) (disch := first | assumption | (refine Shut.mk ?_; kernel_rfl) | omega | (simp only [GT]; done) | (simp only [LN] <;> omega) | fail) only [↓DN, ↓kAsg, ↓kRet, UP, simprocAttr, ↓x9, ↓xz, ↓x1p, ↓x24, ↓x3, ↓x12, ↓xa, ↓x7, ↓x5, ↓x6, LA, hc, u_ints, c_int, u_intss, c_ints, ↓loop_a, ht, rows_snoc, List.length_append, eR_snoc, ints_length, ints_take, ↓ih]
   rw [e1]
   simp only [List.append_assoc, List.cons_append, List.nil_append, List.length_append, List.length_cons, List.length_nil, Nat.add_assoc, Nat.add_comm 1, Nat.zero_add]
  ·have he0 : e = 1 := by omega
   subst he0
   rw [x65]
   simp only [x5m, Try.f9, SLM, simprocAttr]
   simp -implicitDefEqProofs (maxSteps := 2000000) (disch := first | assumption | (refine Shut.mk ?_; kernel_rfl) | omega | (simp only [GT]; done) | (simp only [LN] <;> omega) | fail) only [↓DN, ↓kAsg, ↓kRet, UP, simprocAttr, ↓x9, ↓xz, ↓x1p, ↓x24, ↓x3, ↓x12, ↓xa, ↓x7, ↓x5, ↓x6, LA, hc, u_ints, c_int, u_intss, c_ints, ↓loop_a, ht, rows_snoc, List.length_append, eR_snoc, ints_length, ints_take, ↓ih]
   rw [e1]
   simp only [List.append_assoc, List.cons_append, List.nil_append, List.length_append, List.length_cons, List.length_nil, Nat.add_assoc, Nat.add_comm 1, Nat.zero_add]
theorem gClone_bools_d {l : List Bool} (hl : l.length ≤ 4294967296) : gClone 1 [.d (.ivs l.length (bools l))] [] = some (.sl 0 0 0 l.length, [.arr (bools l) 1 0]) := by
 have h2 : sliceCells [] 1 (.d (.ivs l.length (bools l))) = some (l.length, bools l) := by
  simp only [sliceCells, bools_length, Nat.mul_one, if_true]
 have h3 : l.length ≤ maxNeed := by unfold maxNeed; omega
 simp only [gClone, h2, h3, if_true]
 rfl
theorem kCall_newD {R : Type} {E : Env} {call : CallF} {h h2 : H} {f : FuncId} {args : List A} {r : A} {k : A → H → Option R} (hs : args.all still = true) (hm : (E.hint f).mode = 0) (hc : call f args [] = some (r, h2)) :
  kCall E call h f args k = k (mapA (back [] h.length h2.length) r) (h ++ h2.map (mapO (back [] h.length h2.length))) := by
 have hid := stills_ids hs
 unfold kCall
 rw [hid, reach_none, mapAs_none _ hid]
 have hpk : pack h [] = [] := rfl
 rw [hpk]
 unfold aCall
 rw [hm, hc]
 simp only [List.length_nil, Nat.zero_le, true_and, closed, List.all_nil, Bool.and_self, if_true, putBack]
theorem x3d {R : Type} {L n : Nat} {hq : H} {k : A → H → Option R} (hn : 1 ≤ n) (l : List Bool) (hl : l.length ≤ 4294967296) :
  kCall env (evCall env L n) hq 38 [.d (.ivs l.length (bools l))] k = k (.sl hq.length 0 0 l.length) (hq ++ [.arr (bools l) 1 0]) := by
 obtain ⟨n, rfl⟩ : ∃ m, n = m + 1 := ⟨n - 1, by omega⟩
 rw [kCall_newD rfl x4q (by rw [xch]; exact gClone_bools_d hl)]
 simp [mapA, back, mapO]
theorem xjl {L n : Nat} (hn : 6 ≤ n) (al x y : Int) (rs : List (List Int)) (ac : List Bool) (hs : rowsShort rs) (ha : ac.length ≤ 4294967296) (hL : 2 ^ 60 ≤ L) : evCall env L n 9 [.agg [.d (.int .i64 al), .d (.ivs rs.length (rowsD rs)), .d (.ivs ac.length (bools ac))], .d (.int .i64 x), .d (.int .i64 y)] [] = some (.tup [.agg [.d (.int .i64 (swapAl al x y (swapOK al rs ac x y))), .d (.ivs (swapRs al rs x y (swapOK al rs ac x y)).length (rowsD (swapRs al rs x y (swapOK al rs ac x y)))), .d (.ivs (swapAc ac (swapOK al rs ac x y)).length (bools (swapAc ac (swapOK al rs ac x y))))], .d (.bool (swapOK al rs ac x y))], []) := by
 have hrl := hs.1
 unfold swapOK
 cases hv : autOK al rs ac with
 | false =>
  obtain ⟨n, rfl⟩ : ∃ m, n = m + 1 := ⟨n - 1, by omega⟩
  rw [x61]
  simp only [x5d, Try.f9, SLM, simprocAttr]
  simp -implicitDefEqProofs (maxSteps := 2000000) (disch := first | assumption | (refine Shut.mk ?_; kernel_rfl) | omega | (simp only [GT]; done) | (simp only [LN] <;> omega) | fail) only [↓DN, ↓kAsg, ↓kRet, UP, simprocAttr, ↓x9, ↓xz, ↓x1p, ↓x24, ↓x3d, ↓x3, ↓x12, ↓xa, ↓x7, ↓x5, ↓x6, LA, hv, Bool.false_and, swapAl, swapRs, swapAc, Bool.false_eq_true, if_false, List.length_nil, rowsD_nil, bools_nil]
 | true =>
  cases hx : isLet x with
  | false =>
   obtain ⟨n, rfl⟩ : ∃ m, n = m + 1 := ⟨n - 1, by omega⟩
   rw [x61]
   simp only [x5d, Try.f9, SLM, simprocAttr]
   simp -implicitDefEqProofs (maxSteps := 2000000) (disch := first | assumption | (refine Shut.mk ?_; kernel_rfl) | omega | (simp only [GT]; done) | (simp only [LN] <;> omega) | fail) only [↓DN, ↓kAsg, ↓kRet, UP, simprocAttr, ↓x9, ↓xz, ↓x1p, ↓x24, ↓x3d, ↓x3, ↓x12, ↓xa, ↓x7, ↓x5, ↓x6, LA, hv, hx, Bool.false_and, Bool.and_false, swapAl, swapRs, swapAc, Bool.false_eq_true, if_false, List.length_nil, rowsD_nil, bools_nil]
  | true =>
   cases hy : isLet y with
   | false =>
    obtain ⟨n, rfl⟩ : ∃ m, n = m + 1 := ⟨n - 1, by omega⟩
    rw [x61]
    simp only [x5d, Try.f9, SLM, simprocAttr]
    simp -implicitDefEqProofs (maxSteps := 2000000) (disch := first | assumption | (refine Shut.mk ?_; kernel_rfl) | omega | (simp only [GT]; done) | (simp only [LN] <;> omega) | fail) only [↓DN, ↓kAsg, ↓kRet, UP, simprocAttr, ↓x9, ↓xz, ↓x1p, ↓x24, ↓x3d, ↓x3, ↓x12, ↓xa, ↓x7, ↓x5, ↓x6, LA, hv, hx, hy, Bool.false_and, Bool.and_false, swapAl, swapRs, swapAc, Bool.false_eq_true, if_false, List.length_nil, rowsD_nil, bools_nil]
   | true =>
    have bx := isLet_iff.1 hx
    have by' := isLet_iff.1 hy
    have hw := autOK_wide hv
    have hll := letters_len (swapAlpha al x y)
    have hal := (autOK_len hv).2.2.2
    have loop_a := fun {R : Type} {n : Nat} (hn : 4 ≤ n) {k : Exit → List A → H → Option R} => xfu (R := R) (L := L) (n := n) hn hL (al := al) (al2 := swapAlpha al x y) (z := ac.length) (cs2 := bools ac) hs bx.1 bx.2 by'.1 by'.2 (ls := letters (swapAlpha al x y)) rfl letters_in hll (swapAlpha_alpha hal hx hy) (k := k) rs.length 0 L [] 0 0 (by omega) (by omega) (by omega) (by simp) rfl rfl
    simp only [Int.toNat_zero, List.nil_append, rowsD_nil] at loop_a
    have hrn : (rowsSw al rs x y (letters (swapAlpha al x y)) 0 rs.length).length = rs.length := rowsSw_len
    have htk : ∀ z, z = rs.length → (rowsD (rowsSw al rs x y (letters (swapAlpha al x y)) 0 rs.length)).take z = rowsD (rowsSw al rs x y (letters (swapAlpha al x y)) 0 rs.length) := fun z hz => rows_take (by rw [hrn]; omega)
    have htk2 := htk rs.length rfl
    have hbt : (bools ac).take ac.length = bools ac := bools_take (Nat.le_refl _)
    rcases eR_or (rowsSw al rs x y (letters (swapAlpha al x y)) 0 rs.length) with h1 | h1
    ·have hlen := autOK_len hv
     have : eR (rowsSw al rs x y (letters (swapAlpha al x y)) 0 rs.length) = 1 := by
      unfold eR
      rw [if_neg (by intro hc; rw [hc] at hrn; simp at hrn; omega)]
     omega
    ·obtain ⟨n, rfl⟩ : ∃ m, n = m + 1 := ⟨n - 1, by omega⟩
     rw [x61]
     simp only [x5d, Try.f9, SLM, simprocAttr]
     simp -implicitDefEqProofs (maxSteps := 2000000) (disch := first | assumption | (refine Shut.mk ?_; kernel_rfl) | omega | (simp only [GT]; done) | (simp only [LN] <;> omega) | fail) only [↓DN, ↓kAsg, ↓kRet, UP, simprocAttr, ↓x9, ↓xz, ↓x1p, ↓x24, ↓x3d, ↓x3, ↓x12, ↓xa, ↓x7, ↓x5, ↓x6, LA, hv, hx, hy, Bool.and_self, ↓loop_a, h1, hrn, htk2, hbt, swapAl, swapRs, swapAc, if_true, bools_length, rowsD_length]
theorem x3a {R : Type} {L n : Nat} {hq : H} {k : A → H → Option R} (hn : 6 ≤ n) (al x y : Int) (rs : List (List Int)) (ac : List Bool) (hs : rowsShort rs) (ha : ac.length ≤ 4294967296) (hL : 2 ^ 60 ≤ L) : kCall env (evCall env L n) hq 9 [.agg [.d (.int .i64 al), .d (.ivs rs.length (rowsD rs)), .d (.ivs ac.length (bools ac))], .d (.int .i64 x), .d (.int .i64 y)] k = k (.tup [.agg [.d (.int .i64 (swapAl al x y (swapOK al rs ac x y))), .d (.ivs (swapRs al rs x y (swapOK al rs ac x y)).length (rowsD (swapRs al rs x y (swapOK al rs ac x y)))), .d (.ivs (swapAc ac (swapOK al rs ac x y)).length (bools (swapAc ac (swapOK al rs ac x y))))], .d (.bool (swapOK al rs ac x y))]) hq :=
 kCall_still rfl (xjl hn al x y rs ac hs ha hL) rfl (.inr rfl)
end Ev
end Go.Proofs.Ytppdfjdfjfoddaa
end
