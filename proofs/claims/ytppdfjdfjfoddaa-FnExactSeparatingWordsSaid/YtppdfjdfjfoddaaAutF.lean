/-
  Lists of strings in memory, calls that lay them; what a law in memory needs of regions that draw their order.
-/
import Derived.Test.YtppdfjdfjfoddaaDraw1
import Derived.Test.YtppdfjdfjfoddaaStrS
import Derived.Test.YtppdfjdfjfoddaaEdges
import Derived.Test.YtppdfjdfjfoddaaAutM
section
set_option linter.unusedSimpArgs false
set_option linter.unusedVariables false
set_option maxRecDepth 8000
set_option pp.maxSteps 6000
set_option maxHeartbeats 4000000
namespace Go.Proofs.Ytppdfjdfjfoddaa
namespace Ev
theorem szRows_total : ∀ (rs : List (List Int)) (l : Int), 0 ≤ szRows rs l → (total rs : Int) ≤ l
 | [], l, h => by simpa [szRows, total] using h
 | r :: rs, l, h => by
  simp only [szRows] at h
  split at h
  ·omega
  ·have := szRows_total rs _ h
   simp only [total]
   omega
theorem szA_total {rs : List (List Int)} {ac : List Bool} (h : ¬ szA rs ac 1048576 < 0) : total rs ≤ 1048576 := by
 unfold szA at h
 split at h
 ·omega
 ·rename_i h1
  unfold szSS at h1
  split at h1
  ·omega
  ·have := szRows_total rs (1048576 - rs.length) (by omega)
   omega
theorem ids_autD {al : Int} {rs : List (List Int)} {ac : List Bool} : idsA (autD al rs ac) = [] := rfl
theorem footC_ro {E : Env} {f : FuncId} {h : H} {ord : List Nat} (hm : (E.hint f).mode = 1) : footC E f h h ord = some (h, { ids := ord, ro := true }) := by
 unfold footC
 rw [hm]
 simp
theorem footC_new {E : Env} {f : FuncId} {h t : H} (hm : (E.hint f).mode = 2) : footC E f h (h ++ t) [] = some (h ++ t, { ids := List.range' h.length t.length, ro := false }) := by
 unfold footC
 rw [hm]
 simp [wrC]
theorem get_keep {h h2 : H} {i : Nat} {o : O} (hi : h[i]? = some o) : (h ++ h2)[i]? = some o := by
 rw [List.getElem?_append_left (lt_of_get hi)]; exact hi
theorem clash_at {a : A} {i n k : Nat} (hi : idsA a = [i]) (h : i < n) : clash { ids := idsA a } { ids := List.range' n k, ro := false } = false := by
 rw [hi]
 unfold clash
 simp only [Bool.not_true, Bool.false_and, Bool.not_false, Bool.true_and, Bool.false_or, List.any_eq_false, List.mem_range'_1, List.contains_iff_mem, List.mem_singleton]
 intro x hx
 omega
theorem rdA_strs {h : H} {id : Nat} {l : List Str} (hi : h[id]? = some (.arr (strsL l) 1 0)) : rdA h (.sl id 0 0 l.length) = some (.d (.ivs l.length (strsL l))) := by
 have e : (strsL l).take l.length = strsL l := strsL_take (Nat.le_refl _)
 simp [rdA, rd1, rd0, hi, strsL_length, e]
theorem clean_strs (l : List Str) : cleanO (.arr (strsL l) 1 0) = true := by
 have key : ∀ l : List Str, (l.map D.str).all cleanD = true := by
  intro l
  induction l with
  | nil => rfl
  | cons s l ih => simp only [List.map_cons, List.all_cons, ih, Bool.and_true]; rfl
 simp only [cleanO]
 exact key l
theorem lay_strs {R : Type} {E : Env} {call : CallF} {h : H} {f : FuncId} {k : A → H → Option R} {args fs : List A} {l : List Str} (hm : (E.hint f).mode = 3) (hr : rdAs h args = some fs) (hw : (idsL args).length + wgt h ≤ 1099511627776)
  (hc : call f fs [] = some (.sl 0 0 0 l.length, [.arr (strsL l) 1 0])) : kCall E call h f args k = k (.sl h.length 0 0 l.length) (h ++ [.arr (strsL l) 1 0]) := by
 rw [kCall_lay hm hr hw hc (by rw [List.all_cons, clean_strs]; rfl)]
 simp [mapA, back, mapO]
theorem lay_d {R : Type} {E : Env} {call : CallF} {h : H} {f : FuncId} {k : A → H → Option R} {args fs : List A} {x : D} (hm : (E.hint f).mode = 3) (hr : rdAs h args = some fs) (hw : (idsL args).length + wgt h ≤ 1099511627776)
  (hc : call f fs [] = some (.d x, [])) (hx : cleanD x = true) : kCall E call h f args k = k (.d x) h := by
 rw [kCall_lay hm hr hw hc (by simp [cleanA, hx])]
 simp [mapA]
theorem wgt_set_le : ∀ {h : H} {i : Nat} {o : O}, i < h.length → kidsO o = [] → wgt (h.set i o) ≤ wgt h
 | [], i, o, hi, _ => by simp at hi
 | x :: h, 0, o, _, ho => by
  have e1 := wgt_app [o] h
  have e2 := wgt_app [x] h
  have e3 : wgt [o] = 0 := by
   cases o <;> simp [wgt, kidsO] at ho ⊢ <;> simp [ho]
  simp only [List.set_cons_zero]
  simp only [List.cons_append, List.nil_append] at e1 e2
  omega
 | x :: h, i + 1, o, hi, ho => by
  have ih := wgt_set_le (h := h) (i := i) (o := o) (by simpa using hi) ho
  have e1 := wgt_app [x] (h.set i o)
  have e2 := wgt_app [x] h
  simp only [List.set_cons_succ]
  simp only [List.cons_append, List.nil_append] at e1 e2
  omega
theorem xmd {R : Type} {L n m : Nat} {k : Exit → List A → H → Option R} : kLoop env (evCall env L n) L (0) [] (U2 (Z2 (U2 (Z8 (Z4 (Z2 ([]))))))) (x5p 0) (Z2 (U2 (Z2 (U8 (U4 (U2 ([]))))))) (m + 1) (.d (.ivs 0 []) :: .d (.int .i64 1) :: Y2 (.d (.int .i64 0) :: .d (.int .i64 0) :: Y8 (Y4 (Y2 ([]))))) [] k = k (.exit 0) (.d (.ivs 0 []) :: .d (.int .i64 1) :: Y2 (.d (.int .i64 0) :: .d (.int .i64 0) :: Y8 (Y4 (Y2 ([]))))) [] := by
 rw [x7z]
 simp only [x7t, Try.f23, SLM, simprocAttr]
 simp -implicitDefEqProofs (maxSteps := 2000000) (disch := first | assumption | (refine Shut.mk ?_; kernel_rfl) | omega | (simp only [GT]; done) | (simp only [LN] <;> omega) | fail) only [↓DN, ↓kAsg, ↓kRet, UP, simprocAttr, ↓x5n, Int.lt_irrefl]
theorem xnt {L n : Nat} (hn : 4 ≤ n) (hL : 2 ^ 60 ≤ L) : evCall env L n 23 [.d (.ivs 0 []), .d (.int .i64 1)] [] = some (.d (.int .i64 1), []) := by
 have loop_c := fun {R : Type} {n : Nat} {k : Exit → List A → H → Option R} => @xmd R L n (L - 1) k
 rw [show L - 1 + 1 = L by omega] at loop_c
 obtain ⟨n, rfl⟩ : ∃ m, n = m + 1 := ⟨n - 1, by omega⟩
 rw [xjz]
 simp only [xf9, Try.f23, SLM, simprocAttr]
 simp -implicitDefEqProofs (maxSteps := 2000000) (disch := first | assumption | (refine Shut.mk ?_; kernel_rfl) | omega | (simp only [GT]; done) | (simp only [LN] <;> omega) | fail) only [↓DN, ↓kAsg, ↓kRet, UP, simprocAttr, ↓x5n, ↓loop_c]
section
variable {L n : Nat} {h : H}
theorem eqS_mem {l : List Str} {args : List A} (hn : 2 ≤ n) (hl : l.length ≤ 4294967296) (hr : rdAs h args = some [.d (.ivs l.length (strsL l)), .d (.ivs l.length (strsL l))]) (hw : (idsL args).length + wgt h ≤ 1099511627776) (hL : 2 ^ 60 ≤ L) : ∀ {R : Type} {k : A → H → Option R}, kCall env (evCall env L n) h 20 args k = k (.d (.bool true)) h := by
 intro R k
 rw [kCall_read x5o hr hw]
 exact kLent_ev (xhu hn l hl hL) rfl
theorem heldS_mem {l : List Str} {args : List A} (hn : 4 ≤ n) (hl : l.length ≤ 16777216) (hr : rdAs h args = some [.d (.ivs l.length (strsL (marksL 1 l.length))), .d (.int .i64 1)]) (hw : (idsL args).length + wgt h ≤ 1099511627776) (hL : 2 ^ 60 ≤ L) : ∀ {R : Type} {k : A → H → Option R}, kCall env (evCall env L n) h 24 args k = k (.d (.int .i64 (1 + l.length))) h := by
 intro R k
 rw [kCall_read x77 hr hw]
 have := xdp hn (marksL 1 l.length) (by rw [marksL_len]; exact hl) (fun q hq => by rw [marksL_len] at hq; exact marksL_get _ _ _ hq) hL
 rw [marksL_len] at this
 exact kLent_ev this rfl
end
end Ev
end Go.Proofs.Ytppdfjdfjfoddaa
end

/-!
  The letters of an alphabet: the reference's.
-/
section
set_option linter.unusedSimpArgs false
set_option linter.unusedVariables false
set_option maxRecDepth 8000
set_option maxHeartbeats 4000000
set_option pp.maxSteps 6000
namespace Go.Proofs.Ytppdfjdfjfoddaa
namespace Ev
theorem xp0 {R : Type} {L n : Nat} (hn : 1 ≤ n) {a : Int} {k : Exit → List A → H → Option R} : ∀ (i : Int) (m : Nat) (l : List Int) (len : Nat) (h0 : 0 ≤ i) (hi : i ≤ 6) (hm : 6 - i < m) (hl : len = l.length) (hlen : (l.length : Int) ≤ i),
  kLoop env (evCall env L n) L 0 [] (U1 (Z1 (U2 (U1 (Z8 (Z4 (Z1 ([])))))))) (x6k 0) (Z1 (U1 (Z2 (Z1 (U8 (U4 (U1 ([])))))))) m (.d (.int .i64 a) :: Y1 (.d .nils :: .sl 0 0 0 len :: .d (.int .i64 i) :: Y8 (Y4 (Y1 ([]))))) [.arr (ints l) 1 0] k
  = k (.exit 0) (.d (.int .i64 a) :: Y1 (.d .nils :: .sl 0 0 0 (len + ((restL (6 - i).toNat).filter (bitAt a)).length) :: .d (.int .i64 6) :: Y8 (Y4 (Y1 ([]))))) [.arr (ints (l ++ (restL (6 - i).toNat).filter (bitAt a))) 1 0] := by
 intro i m l len h0 hi hm hl hlen
 obtain ⟨j, hj⟩ : ∃ j : Nat, (j : Int) = (6 : Int) - i := ⟨((6 : Int) - i).toNat, by omega⟩
 induction j generalizing i m l len with
 | zero =>
  obtain ⟨m, rfl⟩ : ∃ q, m = q + 1 := ⟨m - 1, by omega⟩
  obtain rfl : i = 6 := by omega
  rw [x8l]
  simp only [x7w, Try.f44, SLM, simprocAttr]
  simp -implicitDefEqProofs (maxSteps := 2000000) (disch := first | assumption | (refine Shut.mk ?_; kernel_rfl) | omega | (simp only [GT]; done) | (simp only [LN] <;> omega) | fail) only [↓DN, ↓kAsg, ↓kRet, UP, simprocAttr, ↓x4a]
  simp only [restL, List.filter_nil, List.append_nil, List.length_nil, Nat.add_zero]
 | succ j ih =>
  obtain ⟨m, rfl⟩ : ∃ q, m = q + 1 := ⟨m - 1, by omega⟩
  have hc : i < 6 := by omega
  have e1 : (6 - i).toNat = j + 1 := by omega
  have e2 : (6 - (i + 1)).toNat = j := by omega
  have hr : restL (j + 1) = i :: restL j := by simp only [restL]; congr 1; omega
  rw [e1, hr, List.filter_cons]
  cases hb : bitAt a i with
  | true =>
   rw [x8l]
   simp only [x7w, Try.f44, SLM, simprocAttr]
   simp -implicitDefEqProofs (maxSteps := 2000000) (disch := first | assumption | (refine Shut.mk ?_; kernel_rfl) | omega | (simp only [GT]; done) | (simp only [LN] <;> omega) | fail) only [↓DN, ↓kAsg, ↓kRet, UP, simprocAttr, ↓x4a, ↓ih, hc, hb, e2]
   simp only [List.append_assoc, List.cons_append, List.nil_append, Nat.add_assoc, Nat.add_comm 1]
  | false =>
   rw [x8l]
   simp only [x7w, Try.f44, SLM, simprocAttr]
   simp -implicitDefEqProofs (maxSteps := 2000000) (disch := first | assumption | (refine Shut.mk ?_; kernel_rfl) | omega | (simp only [GT]; done) | (simp only [LN] <;> omega) | fail) only [↓DN, ↓kAsg, ↓kRet, UP, simprocAttr, ↓x4a, ↓ih, hc, hb, e2]
theorem restL6 : restL (6 - (0 : Int)).toNat = [0, 1, 2, 3, 4, 5] := rfl
theorem xro {L n : Nat} (hn : 2 ≤ n) (a : Int) (hL : 2 ^ 60 ≤ L) : evCall env L n 44 [.d (.int .i64 a)] [] = some (.d (.ivs (letters a).length (ints (letters a))), []) := by
 unfold letters
 rw [← restL6]
 obtain ⟨n, rfl⟩ : ∃ m, n = m + 1 := ⟨n - 1, by omega⟩
 rw [xrm]
 simp only [xl1, Try.f44, SLM, simprocAttr]
 simp -implicitDefEqProofs (maxSteps := 2000000) (disch := first | assumption | (refine Shut.mk ?_; kernel_rfl) | omega | (simp only [GT]; done) | (simp only [LN] <;> omega) | fail) only [↓DN, ↓kAsg, ↓kRet, UP, simprocAttr, ↓x4a, nil_ints, ↓xp0]
theorem x2 {R : Type} {L n : Nat} {hq : H} {k : A → H → Option R} (hn : 2 ≤ n) (a : Int) (hL : 2 ^ 60 ≤ L) : kCall env (evCall env L n) hq 44 [.d (.int .i64 a)] k = k (.d (.ivs (letters a).length (ints (letters a)))) hq :=
 kCall_still rfl (xro hn a hL) rfl (.inr rfl)
end Ev
end Go.Proofs.Ytppdfjdfjfoddaa
end

/-!
  Valid automata; where a letter leads: the functions of the program and of the reference, at data.
-/
section
set_option linter.unusedSimpArgs false
set_option linter.unusedVariables false
set_option maxRecDepth 8000
set_option pp.maxSteps 6000
set_option maxHeartbeats 4000000
namespace Go.Proofs.Ytppdfjdfjfoddaa
namespace Ev
def badQ (n : Int) (r : List Int) (i : Nat) : Bool := !(decide (0 ≤ r.getD i 0) && decide (r.getD i 0 < n))
def rowBad (w n : Int) (r : List Int) : Bool := !decide ((r.length : Int) = w) || (seek (badQ n r) r.length 0).isSome
def rowBadAt (w n : Int) (rs : List (List Int)) (i : Nat) : Bool := rowBad w n (rs.getD i [])
def autOK (al : Int) (rs : List (List Int)) (ac : List Bool) : Bool :=
 isAlpha al && decide ((1 : Int) ≤ rs.length) && decide ((rs.length : Int) ≤ 12) && decide ((ac.length : Int) = rs.length) && (seek (rowBadAt (letters al).length rs.length rs) rs.length 0).isNone
theorem rowBad_w {w n : Int} {r : List Int} (h : ¬ (r.length : Int) = w) : rowBad w n r = true := by
 unfold rowBad
 rw [decide_eq_false h]
 rfl
theorem rowBad_s {w n : Int} {r : List Int} (h : (r.length : Int) = w) : rowBad w n r = (seek (badQ n r) r.length 0).isSome := by
 unfold rowBad
 rw [decide_eq_true h]
 rfl
theorem badQ_true {n : Int} {r : List Int} {i : Nat} : badQ n r i = true ↔ ¬ (0 ≤ r.getD i 0 ∧ r.getD i 0 < n) := by
 unfold badQ
 simp only [Bool.not_eq_true', Bool.and_eq_false_iff, decide_eq_false_iff_not]
 omega
theorem badQ_false {n : Int} {r : List Int} {i : Nat} : badQ n r i = false ↔ (0 ≤ r.getD i 0 ∧ r.getD i 0 < n) := by
 unfold badQ
 simp only [Bool.not_eq_false', Bool.and_eq_true, decide_eq_true_eq]
theorem xcg {R : Type} {L nn : Nat} (hn : 1 ≤ nn) {n : Int} {r : List Int} (hl : r.length ≤ 4294967296) {k : Exit → List A → H → Option R} : ∀ (j : Nat) (i : Int) (m : Nat) (h0 : 0 ≤ i) (hi : i + j = r.length) (hm : j < m),
  kLoop env (evCall env L nn) L 0 [] (U1 (Z1 (U1 (Z2 (Z1 (U2 (Z16 (Z4 (Z2 (Z1 ([]))))))))))) (xbe 0) (Z1 (U1 (Z1 (U2 (U1 (Z2 (U16 (U4 (U2 (U1 ([]))))))))))) m (.d (.ivs r.length (ints r)) :: Y1 (.d (.int .i64 n) :: Y2 (Y1 (.d (.bool false) :: .d (.int .i64 i) :: Y16 (Y4 (Y2 (Y1 ([])))))))) [] k
  = match seek (badQ n r) j i.toNat with
   | none => k (.exit 0) (.d (.ivs r.length (ints r)) :: Y1 (.d (.int .i64 n) :: Y2 (Y1 (.d (.bool false) :: .d (.int .i64 (r.length)) :: Y16 (Y4 (Y2 (Y1 ([])))))))) []
   | some q => k .ret (.d (.ivs r.length (ints r)) :: Y1 (.d (.int .i64 n) :: Y2 (Y1 (.d (.bool false) :: .d (.int .i64 q) :: Y16 (Y4 (Y2 (Y1 ([])))))))) [] := by
 intro j
 induction j with
 | zero =>
  intro i m h0 hi hm
  obtain ⟨m, rfl⟩ : ∃ q, m = q + 1 := ⟨m - 1, by omega⟩
  obtain rfl : i = r.length := by omega
  rw [x8v]
  simp only [xa7, Try.f80, SLM, simprocAttr]
  simp -implicitDefEqProofs (maxSteps := 2000000) (disch := first | assumption | (refine Shut.mk ?_; kernel_rfl) | omega | (simp only [GT]; done) | (simp only [LN] <;> omega) | fail) only [↓DN, ↓kAsg, ↓kRet, UP, simprocAttr, LA, Int.lt_irrefl]
  rfl
 | succ j ih =>
  intro i m h0 hi hm
  obtain ⟨m, rfl⟩ : ∃ q, m = q + 1 := ⟨m - 1, by omega⟩
  have hc : i < r.length := by omega
  have hk : i.toNat < r.length := by omega
  have e1 : (i + 1).toNat = i.toNat + 1 := by omega
  have e3 : ((i.toNat : Nat) : Int) = i := by omega
  by_cases h1 : r.getD i.toNat 0 < 0
  ·have hb : badQ n r i.toNat = true := by rw [badQ_true]; omega
   rw [seek_pos hb]
   rw [x8v]
   simp only [xa7, Try.f80, SLM, simprocAttr]
   simp -implicitDefEqProofs (maxSteps := 2000000) (disch := first | assumption | (refine Shut.mk ?_; kernel_rfl) | omega | (simp only [GT]; done) | (simp only [LN] <;> omega) | fail) only [↓DN, ↓kAsg, ↓kRet, UP, simprocAttr, LA, u_ints, c_int, hc, h1, e3]
  ·by_cases h2 : n ≤ r.getD i.toNat 0
   ·have hb : badQ n r i.toNat = true := by rw [badQ_true]; omega
    rw [seek_pos hb]
    rw [x8v]
    simp only [xa7, Try.f80, SLM, simprocAttr]
    simp -implicitDefEqProofs (maxSteps := 2000000) (disch := first | assumption | (refine Shut.mk ?_; kernel_rfl) | omega | (simp only [GT]; done) | (simp only [LN] <;> omega) | fail) only [↓DN, ↓kAsg, ↓kRet, UP, simprocAttr, LA, u_ints, c_int, hc, h1, h2, e3]
   ·have hb : badQ n r i.toNat = false := by rw [badQ_false]; omega
    rw [seek_neg hb]
    rw [x8v]
    simp only [xa7, Try.f80, SLM, simprocAttr]
    simp -implicitDefEqProofs (maxSteps := 2000000) (disch := first | assumption | (refine Shut.mk ?_; kernel_rfl) | omega | (simp only [GT]; done) | (simp only [LN] <;> omega) | fail) only [↓DN, ↓kAsg, ↓kRet, UP, simprocAttr, LA, u_ints, c_int, hc, h1, h2, ↓ih, e1]
theorem xqz {L n : Nat} (hn : 2 ≤ n) (r : List Int) (w q : Int) (hl : r.length ≤ 4294967296) (hL : 2 ^ 60 ≤ L) : evCall env L n 80 [.d (.ivs r.length (ints r)), .d (.int .i64 w), .d (.int .i64 q)] [] = some (.d (.bool (!rowBad w q r)), []) := by
 unfold rowBad
 by_cases h1 : (r.length : Int) = w
 ·have loop_a := fun {R : Type} {n : Nat} (hn : 1 ≤ n) {k : Exit → List A → H → Option R} => xcg (R := R) (L := L) (nn := n) hn (n := q) hl (k := k) r.length 0 L (by omega) (by omega) (by omega)
  simp only [Int.toNat_zero] at loop_a
  cases hs : seek (badQ q r) r.length 0 with
  | none =>
   rw [hs] at loop_a
   obtain ⟨n, rfl⟩ : ∃ m, n = m + 1 := ⟨n - 1, by omega⟩
   rw [xku]
   simp only [xi4, Try.f80, SLM, simprocAttr]
   simp -implicitDefEqProofs (maxSteps := 2000000) (disch := first | assumption | (refine Shut.mk ?_; kernel_rfl) | omega | (simp only [GT]; done) | (simp only [LN] <;> omega) | fail) only [↓DN, ↓kAsg, ↓kRet, UP, simprocAttr, ↓xcg, LA, h1, ↓loop_a, hs]
  | some z =>
   rw [hs] at loop_a
   obtain ⟨n, rfl⟩ : ∃ m, n = m + 1 := ⟨n - 1, by omega⟩
   rw [xku]
   simp only [xi4, Try.f80, SLM, simprocAttr]
   simp -implicitDefEqProofs (maxSteps := 2000000) (disch := first | assumption | (refine Shut.mk ?_; kernel_rfl) | omega | (simp only [GT]; done) | (simp only [LN] <;> omega) | fail) only [↓DN, ↓kAsg, ↓kRet, UP, simprocAttr, ↓xcg, LA, h1, ↓loop_a, hs]
 ·obtain ⟨n, rfl⟩ : ∃ m, n = m + 1 := ⟨n - 1, by omega⟩
  rw [xku]
  simp only [xi4, Try.f80, SLM, simprocAttr]
  simp -implicitDefEqProofs (maxSteps := 2000000) (disch := first | assumption | (refine Shut.mk ?_; kernel_rfl) | omega | (simp only [GT]; done) | (simp only [LN] <;> omega) | fail) only [↓DN, ↓kAsg, ↓kRet, UP, simprocAttr, ↓xcg, LA, h1]
theorem x5l {R : Type} {L n : Nat} {hq : H} {k : A → H → Option R} (hn : 2 ≤ n) (r : List Int) (w q : Int) (hl : r.length ≤ 4294967296) (hL : 2 ^ 60 ≤ L) : kCall env (evCall env L n) hq 80 [.d (.ivs r.length (ints r)), .d (.int .i64 w), .d (.int .i64 q)] k = k (.d (.bool (!rowBad w q r))) hq :=
 kCall_still rfl (xqz hn r w q hl hL) rfl (.inl rfl)
theorem x5i {R : Type} {L n : Nat} {k : A → Option R} (hn : 2 ≤ n) (r : List Int) (w q : Int) (hl : r.length ≤ 4294967296) (hL : 2 ^ 60 ≤ L) : kLent (evCall env L n) 80 [.d (.ivs r.length (ints r)), .d (.int .i64 w), .d (.int .i64 q)] k = k (.d (.bool (!rowBad w q r))) :=
 kLent_ev (xqz hn r w q hl hL) rfl
theorem x48 {R : Type} {L n : Nat} {hq : H} {k : A → H → Option R} {id0 g0 o0 len0 : Nat} {w q : Int} : kCall env (evCall env L n) hq 80 [.sl id0 g0 o0 len0, .d (.int .i64 w), .d (.int .i64 q)] k = match box (lentA hq [.sl id0 g0 o0 len0, .d (.int .i64 w), .d (.int .i64 q)]) with
  | .mk (some fs) => kLent (evCall env L n) 80 fs fun r => k r hq
  | _ => none := kCall_lent xgv
theorem x2a {R : Type} {L n : Nat} (hL : 2 ^ 60 ≤ L) (hn : 3 ≤ n) {al : Int} {rs : List (List Int)} {ac : List Bool} (hs : rowsShort rs) {k : Exit → List A → H → Option R} : ∀ (j : Nat) (i : Int) (m : Nat) (h0 : 0 ≤ i) (hi : i + j = rs.length) (hm : j < m),
  kLoop env (evCall env L n) L 0 [] (Z1 (U4 (Z32 (Z4 (Z2 (Z1 ([]))))))) (x4x 0) (U1 (Z4 (U32 (U4 (U2 (U1 ([]))))))) m (Y1 (.ptr 0 0 0 :: .d (.bool false) :: .d (.int .i64 (rs.length)) :: .d (.int .i64 i) :: Y32 (Y4 (Y2 (Y1 ([])))))) [.box [.d (.int .i64 al), .d (.ivs rs.length (rowsD rs)), .d (.ivs ac.length (bools ac))]] k
  = match seek (rowBadAt (letters al).length rs.length rs) j i.toNat with
   | none => k (.exit 0) (Y1 (.ptr 0 0 0 :: .d (.bool false) :: .d (.int .i64 (rs.length)) :: .d (.int .i64 (rs.length)) :: Y32 (Y4 (Y2 (Y1 ([])))))) [.box [.d (.int .i64 al), .d (.ivs rs.length (rowsD rs)), .d (.ivs ac.length (bools ac))]]
   | some q => k .ret (Y1 (.ptr 0 0 0 :: .d (.bool false) :: .d (.int .i64 (rs.length)) :: .d (.int .i64 q) :: Y32 (Y4 (Y2 (Y1 ([])))))) [.box [.d (.int .i64 al), .d (.ivs rs.length (rowsD rs)), .d (.ivs ac.length (bools ac))]] := by
 intro j
 have hrl := hs.1
 have hll := letters_len al
 induction j with
 | zero =>
  intro i m h0 hi hm
  obtain ⟨m, rfl⟩ : ∃ q, m = q + 1 := ⟨m - 1, by omega⟩
  obtain rfl : i = rs.length := by omega
  rw [x61]
  simp only [x5j, Try.f41, SLM, simprocAttr]
  simp -implicitDefEqProofs (maxSteps := 2000000) (disch := first | assumption | (refine Shut.mk ?_; kernel_rfl) | omega | (simp only [GT]; done) | (simp only [LN] <;> omega) | fail) only [↓DN, ↓kAsg, ↓kRet, UP, simprocAttr, ↓x30, ↓x2, ↓x5l, ↓x5i, ↓x48, LA, Int.lt_irrefl]
  rfl
 | succ j ih =>
  intro i m h0 hi hm
  obtain ⟨m, rfl⟩ : ∃ q, m = q + 1 := ⟨m - 1, by omega⟩
  have hc : i < rs.length := by omega
  have hk : i.toNat < rs.length := by omega
  have hrow := short_at hs hk
  have e1 : (i + 1).toNat = i.toNat + 1 := by omega
  have e3 : ((i.toNat : Nat) : Int) = i := by omega
  cases hb : rowBadAt (letters al).length rs.length rs i.toNat with
  | true =>
   rw [seek_pos hb]
   unfold rowBadAt at hb
   rw [x61]
   simp only [x5j, Try.f41, SLM, simprocAttr]
   simp -implicitDefEqProofs (maxSteps := 2000000) (disch := first | assumption | (refine Shut.mk ?_; kernel_rfl) | omega | (simp only [GT]; done) | (simp only [LN] <;> omega) | fail) only [↓DN, ↓kAsg, ↓kRet, UP, simprocAttr, ↓x30, ↓x2, ↓x5l, ↓x5i, ↓x48, LA, u_intss, c_ints, hc, hb, e3]
  | false =>
   rw [seek_neg hb]
   unfold rowBadAt at hb
   rw [x61]
   simp only [x5j, Try.f41, SLM, simprocAttr]
   simp -implicitDefEqProofs (maxSteps := 2000000) (disch := first | assumption | (refine Shut.mk ?_; kernel_rfl) | omega | (simp only [GT]; done) | (simp only [LN] <;> omega) | fail) only [↓DN, ↓kAsg, ↓kRet, UP, simprocAttr, ↓x30, ↓x2, ↓x5l, ↓x5i, ↓x48, LA, u_intss, c_ints, hc, hb, ↓ih, e1]
theorem xct {L n : Nat} (hn : 4 ≤ n) (al : Int) (rs : List (List Int)) (ac : List Bool) (hs : rowsShort rs) (ha : ac.length ≤ 4294967296) (hL : 2 ^ 60 ≤ L) : evCall env L n 41 [.agg [.d (.int .i64 al), .d (.ivs rs.length (rowsD rs)), .d (.ivs ac.length (bools ac))]] [] = some (.d (.bool (autOK al rs ac)), []) := by
 have hrl := hs.1
 have loop_a := fun {R : Type} {n : Nat} (hn : 3 ≤ n) {k : Exit → List A → H → Option R} => x2a (R := R) (L := L) hL hn (al := al) (ac := ac) hs (k := k) rs.length 0 L (by omega) (by omega) (by omega)
 simp only [Int.toNat_zero] at loop_a
 unfold autOK
 cases hq : isAlpha al with
 | false =>
  obtain ⟨n, rfl⟩ : ∃ m, n = m + 1 := ⟨n - 1, by omega⟩
  rw [x3p]
  simp only [x3b, Try.f41, SLM, simprocAttr]
  simp -implicitDefEqProofs (maxSteps := 2000000) (disch := first | assumption | (refine Shut.mk ?_; kernel_rfl) | omega | (simp only [GT]; done) | (simp only [LN] <;> omega) | fail) only [↓DN, ↓kAsg, ↓kRet, UP, simprocAttr, ↓x30, ↓x2, ↓x5l, ↓x5i, ↓x48, ↓x2a, LA, hq, Bool.false_and]
 | true =>
  by_cases h1 : (1 : Int) ≤ rs.length
  ·have n1 : ¬ (rs.length : Int) < 1 := by omega
   by_cases h2 : (rs.length : Int) ≤ 12
   ·have n2 : ¬ (12 : Int) < rs.length := by omega
    by_cases h3 : (ac.length : Int) = rs.length
    ·cases hk : seek (rowBadAt (letters al).length rs.length rs) rs.length 0 with
     | none =>
      rw [hk] at loop_a
      obtain ⟨n, rfl⟩ : ∃ m, n = m + 1 := ⟨n - 1, by omega⟩
      rw [x3p]
      simp only [x3b, Try.f41, SLM, simprocAttr]
      simp -implicitDefEqProofs (maxSteps := 2000000) (disch := first | assumption | (refine Shut.mk ?_; kernel_rfl) | omega | (simp only [GT]; done) | (simp only [LN] <;> omega) | fail) only [↓DN, ↓kAsg, ↓kRet, UP, simprocAttr, ↓x30, ↓x2, ↓x5l, ↓x5i, ↓x48, ↓x2a, LA, hq, h1, n1, h2, n2, h3, hk, ↓loop_a]
     | some z =>
      rw [hk] at loop_a
      obtain ⟨n, rfl⟩ : ∃ m, n = m + 1 := ⟨n - 1, by omega⟩
      rw [x3p]
      simp only [x3b, Try.f41, SLM, simprocAttr]
      simp -implicitDefEqProofs (maxSteps := 2000000) (disch := first | assumption | (refine Shut.mk ?_; kernel_rfl) | omega | (simp only [GT]; done) | (simp only [LN] <;> omega) | fail) only [↓DN, ↓kAsg, ↓kRet, UP, simprocAttr, ↓x30, ↓x2, ↓x5l, ↓x5i, ↓x48, ↓x2a, LA, hq, h1, n1, h2, n2, h3, hk, ↓loop_a, Bool.and_false]
    ·obtain ⟨n, rfl⟩ : ∃ m, n = m + 1 := ⟨n - 1, by omega⟩
     rw [x3p]
     simp only [x3b, Try.f41, SLM, simprocAttr]
     simp -implicitDefEqProofs (maxSteps := 2000000) (disch := first | assumption | (refine Shut.mk ?_; kernel_rfl) | omega | (simp only [GT]; done) | (simp only [LN] <;> omega) | fail) only [↓DN, ↓kAsg, ↓kRet, UP, simprocAttr, ↓x30, ↓x2, ↓x5l, ↓x5i, ↓x48, ↓x2a, LA, hq, h1, n1, h2, n2, h3, Bool.false_and, Bool.and_false]
   ·have n2 : (12 : Int) < rs.length := by omega
    obtain ⟨n, rfl⟩ : ∃ m, n = m + 1 := ⟨n - 1, by omega⟩
    rw [x3p]
    simp only [x3b, Try.f41, SLM, simprocAttr]
    simp -implicitDefEqProofs (maxSteps := 2000000) (disch := first | assumption | (refine Shut.mk ?_; kernel_rfl) | omega | (simp only [GT]; done) | (simp only [LN] <;> omega) | fail) only [↓DN, ↓kAsg, ↓kRet, UP, simprocAttr, ↓x30, ↓x2, ↓x5l, ↓x5i, ↓x48, ↓x2a, LA, hq, h1, n1, h2, n2, Bool.false_and, Bool.and_false]
  ·have n1 : (rs.length : Int) < 1 := by omega
   obtain ⟨n, rfl⟩ : ∃ m, n = m + 1 := ⟨n - 1, by omega⟩
   rw [x3p]
   simp only [x3b, Try.f41, SLM, simprocAttr]
   simp -implicitDefEqProofs (maxSteps := 2000000) (disch := first | assumption | (refine Shut.mk ?_; kernel_rfl) | omega | (simp only [GT]; done) | (simp only [LN] <;> omega) | fail) only [↓DN, ↓kAsg, ↓kRet, UP, simprocAttr, ↓x30, ↓x2, ↓x5l, ↓x5i, ↓x48, ↓x2a, LA, hq, h1, n1, Bool.false_and, Bool.and_false]
theorem x18 {R : Type} {L n : Nat} {hq : H} {k : A → H → Option R} (hn : 4 ≤ n) (al : Int) (rs : List (List Int)) (ac : List Bool) (hs : rowsShort rs) (ha : ac.length ≤ 4294967296) (hL : 2 ^ 60 ≤ L) : kCall env (evCall env L n) hq 41 [.agg [.d (.int .i64 al), .d (.ivs rs.length (rowsD rs)), .d (.ivs ac.length (bools ac))]] k = k (.d (.bool (autOK al rs ac))) hq :=
 kCall_still rfl (xct hn al rs ac hs ha hL) rfl (.inl rfl)
theorem x19 {R : Type} {L n : Nat} {k : A → Option R} (hn : 4 ≤ n) (al : Int) (rs : List (List Int)) (ac : List Bool) (hs : rowsShort rs) (ha : ac.length ≤ 4294967296) (hL : 2 ^ 60 ≤ L) : kLent (evCall env L n) 41 [.agg [.d (.int .i64 al), .d (.ivs rs.length (rowsD rs)), .d (.ivs ac.length (bools ac))]] k = k (.d (.bool (autOK al rs ac))) :=
 kLent_ev (xct hn al rs ac hs ha hL) rfl
theorem x13 {R : Type} {L n : Nat} {hq : H} {k : A → H → Option R} {id0 g0 o0 len0 : Nat} {al : Int} {ac : List Bool} : kCall env (evCall env L n) hq 41 [.agg [.d (.int .i64 al), .sl id0 g0 o0 len0, .d (.ivs ac.length (bools ac))]] k = match box (lentA hq [.agg [.d (.int .i64 al), .sl id0 g0 o0 len0, .d (.ivs ac.length (bools ac))]]) with
  | .mk (some fs) => kLent (evCall env L n) 41 fs fun r => k r hq
  | _ => none := kCall_lent x3w
theorem x11 {R : Type} {L n : Nat} {hq : H} {k : A → H → Option R} {id1 g1 o1 len1 : Nat} {al : Int} {rs : List (List Int)} : kCall env (evCall env L n) hq 41 [.agg [.d (.int .i64 al), .d (.ivs rs.length (rowsD rs)), .sl id1 g1 o1 len1]] k = match box (lentA hq [.agg [.d (.int .i64 al), .d (.ivs rs.length (rowsD rs)), .sl id1 g1 o1 len1]]) with
  | .mk (some fs) => kLent (evCall env L n) 41 fs fun r => k r hq
  | _ => none := kCall_lent x3w
theorem x12 {R : Type} {L n : Nat} {hq : H} {k : A → H → Option R} {id1 g1 o1 len1 : Nat} {id0 g0 o0 len0 : Nat} {al : Int} : kCall env (evCall env L n) hq 41 [.agg [.d (.int .i64 al), .sl id0 g0 o0 len0, .sl id1 g1 o1 len1]] k = match box (lentA hq [.agg [.d (.int .i64 al), .sl id0 g0 o0 len0, .sl id1 g1 o1 len1]]) with
  | .mk (some fs) => kLent (evCall env L n) 41 fs fun r => k r hq
  | _ => none := kCall_lent x3w
theorem x10 {R : Type} {L n : Nat} (hL : 2 ^ 60 ≤ L) (hn : 3 ≤ n) {al q w : Int} {rs : List (List Int)} {ac : List Bool} (hs : rowsShort rs) {r : List Int} (hr : r.length ≤ 4294967296) {k : Exit → List A → H → Option R} : ∀ (j : Nat) (i : Int) (m : Nat) (h0 : 0 ≤ i) (hi : i + j = r.length) (hm : j < m),
  kLoop env (evCall env L n) L 0 [] (Z1 (U2 (U1 (Z32 (Z2 (U2 (U1 (Z4 (Z2 (Z1 (U2 (U1 (Z8 (Z4 (Z2 ([])))))))))))))))) (x1p 1) (U1 (Z2 (Z1 (U32 (U2 (Z2 (Z1 (U4 (U2 (U1 (Z2 (Z1 (U8 (U4 (U2 ([])))))))))))))))) m (Y1 (.ptr 0 0 0 :: .d (.bool false) :: .d (.int .i64 w) :: Y32 (Y2 (.d (.ivs rs.length (rowsD rs)) :: .d (.int .i64 (rs.length)) :: .d (.int .i64 q) :: Y4 (Y2 (Y1 (.d (.ivs r.length (ints r)) :: .d (.int .i64 (r.length)) :: .d (.int .i64 i) :: Y8 (Y4 (Y2 ([])))))))))) [.box [.d (.int .i64 al), .d (.ivs rs.length (rowsD rs)), .d (.ivs ac.length (bools ac))]] k
  = match seek (badQ rs.length r) j i.toNat with
   | none => k (.exit 2) (Y1 (.ptr 0 0 0 :: .d (.bool false) :: .d (.int .i64 w) :: Y32 (Y2 (.d (.ivs rs.length (rowsD rs)) :: .d (.int .i64 (rs.length)) :: .d (.int .i64 q) :: Y4 (Y2 (Y1 (.d (.ivs r.length (ints r)) :: .d (.int .i64 (r.length)) :: .d (.int .i64 (r.length)) :: Y8 (Y4 (Y2 ([])))))))))) [.box [.d (.int .i64 al), .d (.ivs rs.length (rowsD rs)), .d (.ivs ac.length (bools ac))]]
   | some z => k .ret (Y1 (.ptr 0 0 0 :: .d (.bool false) :: .d (.int .i64 w) :: Y32 (Y2 (.d (.ivs rs.length (rowsD rs)) :: .d (.int .i64 (rs.length)) :: .d (.int .i64 q) :: Y4 (Y2 (Y1 (.d (.ivs r.length (ints r)) :: .d (.int .i64 (r.length)) :: .d (.int .i64 z) :: Y8 (Y4 (Y2 ([])))))))))) [.box [.d (.int .i64 al), .d (.ivs rs.length (rowsD rs)), .d (.ivs ac.length (bools ac))]] := by
 intro j
 have hrl := hs.1
 induction j with
 | zero =>
  intro i m h0 hi hm
  obtain ⟨m, rfl⟩ : ∃ q, m = q + 1 := ⟨m - 1, by omega⟩
  obtain rfl : i = r.length := by omega
  rw [x4q]
  simp only [x49, Try.f15, SLM, simprocAttr]
  simp -implicitDefEqProofs (maxSteps := 2000000) (disch := first | assumption | (refine Shut.mk ?_; kernel_rfl) | omega | (simp only [GT]; done) | (simp only [LN] <;> omega) | fail) only [↓DN, ↓kAsg, ↓kRet, UP, simprocAttr, ↓x1c, ↓x7, LA, Int.lt_irrefl]
  rfl
 | succ j ih =>
  intro i m h0 hi hm
  obtain ⟨m, rfl⟩ : ∃ q, m = q + 1 := ⟨m - 1, by omega⟩
  have hc : i < r.length := by omega
  have hk : i.toNat < r.length := by omega
  have e1 : (i + 1).toNat = i.toNat + 1 := by omega
  have e3 : ((i.toNat : Nat) : Int) = i := by omega
  by_cases h1 : r.getD i.toNat 0 < 0
  ·have hb : badQ rs.length r i.toNat = true := by rw [badQ_true]; omega
   rw [seek_pos hb]
   rw [x4q]
   simp only [x49, Try.f15, SLM, simprocAttr]
   simp -implicitDefEqProofs (maxSteps := 2000000) (disch := first | assumption | (refine Shut.mk ?_; kernel_rfl) | omega | (simp only [GT]; done) | (simp only [LN] <;> omega) | fail) only [↓DN, ↓kAsg, ↓kRet, UP, simprocAttr, ↓x1c, ↓x7, LA, u_ints, c_int, hc, h1, e3]
  ·by_cases h2 : (rs.length : Int) ≤ r.getD i.toNat 0
   ·have hb : badQ rs.length r i.toNat = true := by rw [badQ_true]; omega
    rw [seek_pos hb]
    rw [x4q]
    simp only [x49, Try.f15, SLM, simprocAttr]
    simp -implicitDefEqProofs (maxSteps := 2000000) (disch := first | assumption | (refine Shut.mk ?_; kernel_rfl) | omega | (simp only [GT]; done) | (simp only [LN] <;> omega) | fail) only [↓DN, ↓kAsg, ↓kRet, UP, simprocAttr, ↓x1c, ↓x7, LA, u_ints, c_int, hc, h1, h2, e3]
   ·have hb : badQ rs.length r i.toNat = false := by rw [badQ_false]; omega
    rw [seek_neg hb]
    rw [x4q]
    simp only [x49, Try.f15, SLM, simprocAttr]
    simp -implicitDefEqProofs (maxSteps := 2000000) (disch := first | assumption | (refine Shut.mk ?_; kernel_rfl) | omega | (simp only [GT]; done) | (simp only [LN] <;> omega) | fail) only [↓DN, ↓kAsg, ↓kRet, UP, simprocAttr, ↓x1c, ↓x7, LA, u_ints, c_int, hc, h1, h2, ↓ih, e1]
theorem x1u {R : Type} {L n : Nat} (hL : 2 ^ 60 ≤ L) (hn : 3 ≤ n) {al : Int} {rs : List (List Int)} {ac : List Bool} (hs : rowsShort rs) {k : Exit → List A → H → Option R} : ∀ (j : Nat) (i : Int) (m : Nat) (h0 : 0 ≤ i) (hi : i + j = rs.length) (hm : j < m),
  kLoop env (evCall env L n) L 0 [] (Z1 (U2 (U1 (Z32 (Z2 (U2 (U1 (Z4 (Z2 (Z1 (U2 (U1 (Z8 (Z4 (Z2 ([])))))))))))))))) (x1p 0) (U1 (Z2 (Z1 (U32 (U2 (Z2 (Z1 (U16 (U8 ([])))))))))) m (Y1 (.ptr 0 0 0 :: .d (.bool false) :: .d (.int .i64 ((letters al).length)) :: Y32 (Y2 (.d (.ivs rs.length (rowsD rs)) :: .d (.int .i64 (rs.length)) :: .d (.int .i64 i) :: Y16 (Y8 ([])))))) [.box [.d (.int .i64 al), .d (.ivs rs.length (rowsD rs)), .d (.ivs ac.length (bools ac))]] k
  = match seek (rowBadAt (letters al).length rs.length rs) j i.toNat with
   | none => k (.exit 0) (Y1 (.ptr 0 0 0 :: .d (.bool false) :: .d (.int .i64 ((letters al).length)) :: Y32 (Y2 (.d (.ivs rs.length (rowsD rs)) :: .d (.int .i64 (rs.length)) :: .d (.int .i64 (rs.length)) :: Y16 (Y8 ([])))))) [.box [.d (.int .i64 al), .d (.ivs rs.length (rowsD rs)), .d (.ivs ac.length (bools ac))]]
   | some q => k .ret (Y1 (.ptr 0 0 0 :: .d (.bool false) :: .d (.int .i64 ((letters al).length)) :: Y32 (Y2 (.d (.ivs rs.length (rowsD rs)) :: .d (.int .i64 (rs.length)) :: .d (.int .i64 q) :: Y16 (Y8 ([])))))) [.box [.d (.int .i64 al), .d (.ivs rs.length (rowsD rs)), .d (.ivs ac.length (bools ac))]] := by
 intro j
 have hrl := hs.1
 have hll := letters_len al
 induction j with
 | zero =>
  intro i m h0 hi hm
  obtain ⟨m, rfl⟩ : ∃ q, m = q + 1 := ⟨m - 1, by omega⟩
  obtain rfl : i = rs.length := by omega
  rw [x4r]
  simp only [x4f, Try.f15, SLM, simprocAttr]
  simp -implicitDefEqProofs (maxSteps := 2000000) (disch := first | assumption | (refine Shut.mk ?_; kernel_rfl) | omega | (simp only [GT]; done) | (simp only [LN] <;> omega) | fail) only [↓DN, ↓kAsg, ↓kRet, UP, simprocAttr, ↓x1c, ↓x7, ↓x10, LA, Int.lt_irrefl]
  rfl
 | succ j ih =>
  intro i m h0 hi hm
  obtain ⟨m, rfl⟩ : ∃ q, m = q + 1 := ⟨m - 1, by omega⟩
  have hc : i < rs.length := by omega
  have hk : i.toNat < rs.length := by omega
  have hrow := short_at hs hk
  have e1 : (i + 1).toNat = i.toNat + 1 := by omega
  have e3 : ((i.toNat : Nat) : Int) = i := by omega
  have loop_a := fun {R : Type} {k : Exit → List A → H → Option R} => x10 (R := R) (n := n) (L := L) hL hn (al := al) (q := i) (w := (letters al).length) (ac := ac) hs hrow (k := k) (rs.getD i.toNat []).length 0 L (by omega) (by omega) (by omega)
  simp only [Int.toNat_zero] at loop_a
  cases hb : rowBadAt (letters al).length rs.length rs i.toNat with
  | true =>
   rw [seek_pos hb]
   unfold rowBadAt at hb
   by_cases hw : ((rs.getD i.toNat []).length : Int) = (letters al).length
   ·have hwd : decide (((rs.getD i.toNat []).length : Int) = (letters al).length) = true := decide_eq_true hw
    cases hz : seek (badQ rs.length (rs.getD i.toNat [])) (rs.getD i.toNat []).length 0 with
    | none => rw [rowBad_s hw, hz] at hb; cases hb
    | some z =>
     rw [hz] at loop_a
     clear ih hb
     rw [x4r]
     simp only [x4f, Try.f15, SLM, simprocAttr]
     simp -implicitDefEqProofs (maxSteps := 2000000) (disch := first | assumption | (refine Shut.mk ?_; kernel_rfl) | omega | (simp only [GT]; done) | (simp only [LN] <;> omega) | fail) only [↓DN, ↓kAsg, ↓kRet, UP, simprocAttr, ↓x1c, ↓x7, ↓x10, LA, u_intss, c_ints, hc, hwd, ↓loop_a, e3]
   ·clear ih hb loop_a
    rw [x4r]
    simp only [x4f, Try.f15, SLM, simprocAttr]
    simp -implicitDefEqProofs (maxSteps := 2000000) (disch := first | assumption | (refine Shut.mk ?_; kernel_rfl) | omega | (simp only [GT]; done) | (simp only [LN] <;> omega) | fail) only [↓DN, ↓kAsg, ↓kRet, UP, simprocAttr, ↓x1c, ↓x7, ↓x10, LA, u_intss, c_ints, hc, hw, e3]
  | false =>
   rw [seek_neg hb]
   unfold rowBadAt at hb
   by_cases hw : ((rs.getD i.toNat []).length : Int) = (letters al).length
   ·have hwd : decide (((rs.getD i.toNat []).length : Int) = (letters al).length) = true := decide_eq_true hw
    cases hz : seek (badQ rs.length (rs.getD i.toNat [])) (rs.getD i.toNat []).length 0 with
    | none =>
     rw [hz] at loop_a
     clear hb
     rw [x4r]
     simp only [x4f, Try.f15, SLM, simprocAttr]
     simp -implicitDefEqProofs (maxSteps := 2000000) (disch := first | assumption | (refine Shut.mk ?_; kernel_rfl) | omega | (simp only [GT]; done) | (simp only [LN] <;> omega) | fail) only [↓DN, ↓kAsg, ↓kRet, UP, simprocAttr, ↓x1c, ↓x7, ↓x10, LA, u_intss, c_ints, hc, hwd, ↓loop_a, ↓ih, e1]
    | some z => rw [rowBad_s hw, hz] at hb; cases hb
   ·rw [rowBad_w hw] at hb; cases hb
theorem xd2 {L n : Nat} (hn : 4 ≤ n) (al : Int) (rs : List (List Int)) (ac : List Bool) (hs : rowsShort rs) (ha : ac.length ≤ 4294967296) (hL : 2 ^ 60 ≤ L) : evCall env L n 15 [.agg [.d (.int .i64 al), .d (.ivs rs.length (rowsD rs)), .d (.ivs ac.length (bools ac))]] [] = some (.d (.bool (autOK al rs ac)), []) := by
 have hrl := hs.1
 have hll := letters_len al
 have loop_a := fun {R : Type} {n : Nat} (hn : 3 ≤ n) {k : Exit → List A → H → Option R} => x1u (R := R) (L := L) hL hn (al := al) (ac := ac) hs (k := k) rs.length 0 L (by omega) (by omega) (by omega)
 simp only [Int.toNat_zero] at loop_a
 unfold autOK
 cases hq : isAlpha al with
 | false =>
  obtain ⟨n, rfl⟩ : ∃ m, n = m + 1 := ⟨n - 1, by omega⟩
  rw [x3o]
  simp only [x3a, Try.f15, SLM, simprocAttr]
  simp -implicitDefEqProofs (maxSteps := 2000000) (disch := first | assumption | (refine Shut.mk ?_; kernel_rfl) | omega | (simp only [GT]; done) | (simp only [LN] <;> omega) | fail) only [↓DN, ↓kAsg, ↓kRet, UP, simprocAttr, ↓x1c, ↓x7, ↓x1u, ↓x10, LA, hq, Bool.false_and]
 | true =>
  by_cases h1 : (1 : Int) ≤ rs.length
  ·have n1 : ¬ (rs.length : Int) < 1 := by omega
   by_cases h2 : (rs.length : Int) ≤ 12
   ·have n2 : ¬ (12 : Int) < rs.length := by omega
    by_cases h3 : (ac.length : Int) = rs.length
    ·cases hk : seek (rowBadAt (letters al).length rs.length rs) rs.length 0 with
     | none =>
      rw [hk] at loop_a
      obtain ⟨n, rfl⟩ : ∃ m, n = m + 1 := ⟨n - 1, by omega⟩
      rw [x3o]
      simp only [x3a, Try.f15, SLM, simprocAttr]
      simp -implicitDefEqProofs (maxSteps := 2000000) (disch := first | assumption | (refine Shut.mk ?_; kernel_rfl) | omega | (simp only [GT]; done) | (simp only [LN] <;> omega) | fail) only [↓DN, ↓kAsg, ↓kRet, UP, simprocAttr, ↓x1c, ↓x7, ↓x1u, ↓x10, LA, hq, h1, n1, h2, n2, h3, hk, ↓loop_a]
     | some z =>
      rw [hk] at loop_a
      obtain ⟨n, rfl⟩ : ∃ m, n = m + 1 := ⟨n - 1, by omega⟩
      rw [x3o]
      simp only [x3a, Try.f15, SLM, simprocAttr]
      simp -implicitDefEqProofs (maxSteps := 2000000) (disch := first | assumption | (refine Shut.mk ?_; kernel_rfl) | omega | (simp only [GT]; done) | (simp only [LN] <;> omega) | fail) only [↓DN, ↓kAsg, ↓kRet, UP, simprocAttr, ↓x1c, ↓x7, ↓x1u, ↓x10, LA, hq, h1, n1, h2, n2, h3, hk, ↓loop_a, Bool.and_false]
    ·obtain ⟨n, rfl⟩ : ∃ m, n = m + 1 := ⟨n - 1, by omega⟩
     rw [x3o]
     simp only [x3a, Try.f15, SLM, simprocAttr]
     simp -implicitDefEqProofs (maxSteps := 2000000) (disch := first | assumption | (refine Shut.mk ?_; kernel_rfl) | omega | (simp only [GT]; done) | (simp only [LN] <;> omega) | fail) only [↓DN, ↓kAsg, ↓kRet, UP, simprocAttr, ↓x1c, ↓x7, ↓x1u, ↓x10, LA, hq, h1, n1, h2, n2, h3, Bool.false_and, Bool.and_false]
   ·have n2 : (12 : Int) < rs.length := by omega
    obtain ⟨n, rfl⟩ : ∃ m, n = m + 1 := ⟨n - 1, by omega⟩
    rw [x3o]
    simp only [x3a, Try.f15, SLM, simprocAttr]
    simp -implicitDefEqProofs (maxSteps := 2000000) (disch := first | assumption | (refine Shut.mk ?_; kernel_rfl) | omega | (simp only [GT]; done) | (simp only [LN] <;> omega) | fail) only [↓DN, ↓kAsg, ↓kRet, UP, simprocAttr, ↓x1c, ↓x7, ↓x1u, ↓x10, LA, hq, h1, n1, h2, n2, Bool.false_and, Bool.and_false]
  ·have n1 : (rs.length : Int) < 1 := by omega
   obtain ⟨n, rfl⟩ : ∃ m, n = m + 1 := ⟨n - 1, by omega⟩
   rw [x3o]
   simp only [x3a, Try.f15, SLM, simprocAttr]
   simp -implicitDefEqProofs (maxSteps := 2000000) (disch := first | assumption | (refine Shut.mk ?_; kernel_rfl) | omega | (simp only [GT]; done) | (simp only [LN] <;> omega) | fail) only [↓DN, ↓kAsg, ↓kRet, UP, simprocAttr, ↓x1c, ↓x7, ↓x1u, ↓x10, LA, hq, h1, n1, Bool.false_and, Bool.and_false]
theorem xz {R : Type} {L n : Nat} {hq : H} {k : A → H → Option R} (hn : 4 ≤ n) (al : Int) (rs : List (List Int)) (ac : List Bool) (hs : rowsShort rs) (ha : ac.length ≤ 4294967296) (hL : 2 ^ 60 ≤ L) : kCall env (evCall env L n) hq 15 [.agg [.d (.int .i64 al), .d (.ivs rs.length (rowsD rs)), .d (.ivs ac.length (bools ac))]] k = k (.d (.bool (autOK al rs ac))) hq :=
 kCall_still rfl (xd2 hn al rs ac hs ha hL) rfl (.inl rfl)
theorem xy {R : Type} {L n : Nat} {k : A → Option R} (hn : 4 ≤ n) (al : Int) (rs : List (List Int)) (ac : List Bool) (hs : rowsShort rs) (ha : ac.length ≤ 4294967296) (hL : 2 ^ 60 ≤ L) : kLent (evCall env L n) 15 [.agg [.d (.int .i64 al), .d (.ivs rs.length (rowsD rs)), .d (.ivs ac.length (bools ac))]] k = k (.d (.bool (autOK al rs ac))) :=
 kLent_ev (xd2 hn al rs ac hs ha hL) rfl
theorem xa {R : Type} {L n : Nat} {hq : H} {k : A → H → Option R} {id0 g0 o0 len0 : Nat} {al : Int} {ac : List Bool} : kCall env (evCall env L n) hq 15 [.agg [.d (.int .i64 al), .sl id0 g0 o0 len0, .d (.ivs ac.length (bools ac))]] k = match box (lentA hq [.agg [.d (.int .i64 al), .sl id0 g0 o0 len0, .d (.ivs ac.length (bools ac))]]) with
  | .mk (some fs) => kLent (evCall env L n) 15 fs fun r => k r hq
  | _ => none := kCall_lent x3t
theorem x8 {R : Type} {L n : Nat} {hq : H} {k : A → H → Option R} {id1 g1 o1 len1 : Nat} {al : Int} {rs : List (List Int)} : kCall env (evCall env L n) hq 15 [.agg [.d (.int .i64 al), .d (.ivs rs.length (rowsD rs)), .sl id1 g1 o1 len1]] k = match box (lentA hq [.agg [.d (.int .i64 al), .d (.ivs rs.length (rowsD rs)), .sl id1 g1 o1 len1]]) with
  | .mk (some fs) => kLent (evCall env L n) 15 fs fun r => k r hq
  | _ => none := kCall_lent x3t
theorem x9 {R : Type} {L n : Nat} {hq : H} {k : A → H → Option R} {id1 g1 o1 len1 : Nat} {id0 g0 o0 len0 : Nat} {al : Int} : kCall env (evCall env L n) hq 15 [.agg [.d (.int .i64 al), .sl id0 g0 o0 len0, .sl id1 g1 o1 len1]] k = match box (lentA hq [.agg [.d (.int .i64 al), .sl id0 g0 o0 len0, .sl id1 g1 o1 len1]]) with
  | .mk (some fs) => kLent (evCall env L n) 15 fs fun r => k r hq
  | _ => none := kCall_lent x3t
end Ev
end Go.Proofs.Ytppdfjdfjfoddaa
end
