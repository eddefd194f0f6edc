/-
  Valid automata; where a letter leads: the functions of the program and of the reference, at data.
-/
import Derived.Test.YtppdfjdfjfoddaaGc1
import Derived.Test.YtppdfjdfjfoddaaDraw2
set_option linter.unusedSimpArgs false
set_option linter.unusedVariables false
set_option maxRecDepth 8000
set_option pp.maxSteps 6000
set_option maxHeartbeats 4000000
namespace Go.Proofs.Ytppdfjdfjfoddaa
namespace Ev
def badQ (n : Int) (r : List Int) (i : Nat) : Bool := !(decide (0 ≤ r.getD i 0) && decide (r.getD i 0 < n))
def rowBad (w n : Int) (r : List Int) : Bool := !decide ((r.length : Int) = w) || (seek (badQ n r) r.length 0).isSome
def rowBadAt (w n : Int) (rs : List (List Int)) (i : Nat) : Bool := rowBad w n (rs.getD i [])
def autOK (al : Int) (rs : List (List Int)) (ac : List Bool) : Bool :=
 isAlpha al && decide ((1 : Int) ≤ rs.length) && decide ((rs.length : Int) ≤ 12) && decide ((ac.length : Int) = rs.length) && (seek (rowBadAt (letters al).length rs.length rs) rs.length 0).isNone
theorem rowBad_w {w n : Int} {r : List Int} (h : ¬ (r.length : Int) = w) : rowBad w n r = true := by
 unfold rowBad
 rw [decide_eq_false h]
 rfl
theorem rowBad_s {w n : Int} {r : List Int} (h : (r.length : Int) = w) : rowBad w n r = (seek (badQ n r) r.length 0).isSome := by
 unfold rowBad
 rw [decide_eq_true h]
 rfl
theorem badQ_true {n : Int} {r : List Int} {i : Nat} : badQ n r i = true ↔ ¬ (0 ≤ r.getD i 0 ∧ r.getD i 0 < n) := by
 unfold badQ
 simp only [Bool.not_eq_true', Bool.and_eq_false_iff, decide_eq_false_iff_not]
 omega
theorem badQ_false {n : Int} {r : List Int} {i : Nat} : badQ n r i = false ↔ (0 ≤ r.getD i 0 ∧ r.getD i 0 < n) := by
 unfold badQ
 simp only [Bool.not_eq_false', Bool.and_eq_true, decide_eq_true_eq]
theorem xa3 {R : Type} {L nn : Nat} (hn : 1 ≤ nn) {n : Int} {r : List Int} (hl : r.length ≤ 4294967296) {k : Exit → List A → H → Option R} : ∀ (j : Nat) (i : Int) (m : Nat) (h0 : 0 ≤ i) (hi : i + j = r.length) (hm : j < m),
  kLoop env (evCall env L nn) L 0 [] (U1 (Z1 (U1 (Z2 (Z1 (U2 (Z16 (Z4 (Z2 (Z1 ([]))))))))))) (x9y 0) (Z1 (U1 (Z1 (U2 (U1 (Z2 (U16 (U4 (U2 (U1 ([]))))))))))) m (.d (.ivs r.length (ints r)) :: Y1 (.d (.int .i64 n) :: Y2 (Y1 (.d (.bool false) :: .d (.int .i64 i) :: Y16 (Y4 (Y2 (Y1 ([])))))))) [] k
  = match seek (badQ n r) j i.toNat with
   | none => k (.exit 0) (.d (.ivs r.length (ints r)) :: Y1 (.d (.int .i64 n) :: Y2 (Y1 (.d (.bool false) :: .d (.int .i64 (r.length)) :: Y16 (Y4 (Y2 (Y1 ([])))))))) []
   | some q => k .ret (.d (.ivs r.length (ints r)) :: Y1 (.d (.int .i64 n) :: Y2 (Y1 (.d (.bool false) :: .d (.int .i64 q) :: Y16 (Y4 (Y2 (Y1 ([])))))))) [] := by
 intro j
 induction j with
 | zero =>
  intro i m h0 hi hm
  obtain ⟨m, rfl⟩ : ∃ q, m = q + 1 := ⟨m - 1, by omega⟩
  obtain rfl : i = r.length := by omega
  rw [x84]
  simp only [x8u, Try.f80, SLM, simprocAttr]
  simp -implicitDefEqProofs (maxSteps := 2000000) (disch := first | assumption | (refine Shut.mk ?_; kernel_rfl) | omega | (simp only [GT]; done) | (simp only [LN] <;> omega) | fail) only [↓DN, ↓kAsg, ↓kRet, UP, simprocAttr, LA, Int.lt_irrefl]
  rfl
 | succ j ih =>
  intro i m h0 hi hm
  obtain ⟨m, rfl⟩ : ∃ q, m = q + 1 := ⟨m - 1, by omega⟩
  have hc : i < r.length := by omega
  have hk : i.toNat < r.length := by omega
  have e1 : (i + 1).toNat = i.toNat + 1 := by omega
  have e3 : ((i.toNat : Nat) : Int) = i := by omega
  by_cases h1 : r.getD i.toNat 0 < 0
  ·have hb : badQ n r i.toNat = true := by rw [badQ_true]; omega
   rw [seek_pos hb]
   rw [x84]
   simp only [x8u, Try.f80, SLM, simprocAttr]
   simp -implicitDefEqProofs (maxSteps := 2000000) (disch := first | assumption | (refine Shut.mk ?_; kernel_rfl) | omega | (simp only [GT]; done) | (simp only [LN] <;> omega) | fail) only [↓DN, ↓kAsg, ↓kRet, UP, simprocAttr, LA, u_ints, c_int, hc, h1, e3]
  ·by_cases h2 : n ≤ r.getD i.toNat 0
   ·have hb : badQ n r i.toNat = true := by rw [badQ_true]; omega
    rw [seek_pos hb]
    rw [x84]
    simp only [x8u, Try.f80, SLM, simprocAttr]
    simp -implicitDefEqProofs (maxSteps := 2000000) (disch := first | assumption | (refine Shut.mk ?_; kernel_rfl) | omega | (simp only [GT]; done) | (simp only [LN] <;> omega) | fail) only [↓DN, ↓kAsg, ↓kRet, UP, simprocAttr, LA, u_ints, c_int, hc, h1, h2, e3]
   ·have hb : badQ n r i.toNat = false := by rw [badQ_false]; omega
    rw [seek_neg hb]
    rw [x84]
    simp only [x8u, Try.f80, SLM, simprocAttr]
    simp -implicitDefEqProofs (maxSteps := 2000000) (disch := first | assumption | (refine Shut.mk ?_; kernel_rfl) | omega | (simp only [GT]; done) | (simp only [LN] <;> omega) | fail) only [↓DN, ↓kAsg, ↓kRet, UP, simprocAttr, LA, u_ints, c_int, hc, h1, h2, ↓ih, e1]
theorem xkw {L n : Nat} (hn : 2 ≤ n) (r : List Int) (w q : Int) (hl : r.length ≤ 4294967296) (hL : 2 ^ 60 ≤ L) : evCall env L n 80 [.d (.ivs r.length (ints r)), .d (.int .i64 w), .d (.int .i64 q)] [] = some (.d (.bool (!rowBad w q r)), []) := by
 unfold rowBad
 by_cases h1 : (r.length : Int) = w
 ·have loop_a := fun {R : Type} {n : Nat} (hn : 1 ≤ n) {k : Exit → List A → H → Option R} => xa3 (R := R) (L := L) (nn := n) hn (n := q) hl (k := k) r.length 0 L (by omega) (by omega) (by omega)
  simp only [Int.toNat_zero] at loop_a
  cases hs : seek (badQ q r) r.length 0 with
  | none =>
   rw [hs] at loop_a
   obtain ⟨n, rfl⟩ : ∃ m, n = m + 1 := ⟨n - 1, by omega⟩
   rw [xh3]
   simp only [xf0, Try.f80, SLM, simprocAttr]
   simp -implicitDefEqProofs (maxSteps := 2000000) (disch := first | assumption | (refine Shut.mk ?_; kernel_rfl) | omega | (simp only [GT]; done) | (simp only [LN] <;> omega) | fail) only [↓DN, ↓kAsg, ↓kRet, UP, simprocAttr, ↓xa3, LA, h1, ↓loop_a, hs]
  | some z =>
   rw [hs] at loop_a
   obtain ⟨n, rfl⟩ : ∃ m, n = m + 1 := ⟨n - 1, by omega⟩
   rw [xh3]
   simp only [xf0, Try.f80, SLM, simprocAttr]
   simp -implicitDefEqProofs (maxSteps := 2000000) (disch := first | assumption | (refine Shut.mk ?_; kernel_rfl) | omega | (simp only [GT]; done) | (simp only [LN] <;> omega) | fail) only [↓DN, ↓kAsg, ↓kRet, UP, simprocAttr, ↓xa3, LA, h1, ↓loop_a, hs]
 ·obtain ⟨n, rfl⟩ : ∃ m, n = m + 1 := ⟨n - 1, by omega⟩
  rw [xh3]
  simp only [xf0, Try.f80, SLM, simprocAttr]
  simp -implicitDefEqProofs (maxSteps := 2000000) (disch := first | assumption | (refine Shut.mk ?_; kernel_rfl) | omega | (simp only [GT]; done) | (simp only [LN] <;> omega) | fail) only [↓DN, ↓kAsg, ↓kRet, UP, simprocAttr, ↓xa3, LA, h1]
theorem x5f {R : Type} {L n : Nat} {hq : H} {k : A → H → Option R} (hn : 2 ≤ n) (r : List Int) (w q : Int) (hl : r.length ≤ 4294967296) (hL : 2 ^ 60 ≤ L) : kCall env (evCall env L n) hq 80 [.d (.ivs r.length (ints r)), .d (.int .i64 w), .d (.int .i64 q)] k = k (.d (.bool (!rowBad w q r))) hq :=
 kCall_still rfl (xkw hn r w q hl hL) rfl (.inl rfl)
theorem x5g {R : Type} {L n : Nat} {k : A → Option R} (hn : 2 ≤ n) (r : List Int) (w q : Int) (hl : r.length ≤ 4294967296) (hL : 2 ^ 60 ≤ L) : kLent (evCall env L n) 80 [.d (.ivs r.length (ints r)), .d (.int .i64 w), .d (.int .i64 q)] k = k (.d (.bool (!rowBad w q r))) :=
 kLent_ev (xkw hn r w q hl hL) rfl
theorem x3o {R : Type} {L n : Nat} {hq : H} {k : A → H → Option R} {id0 g0 o0 len0 : Nat} {w q : Int} : kCall env (evCall env L n) hq 80 [.sl id0 g0 o0 len0, .d (.int .i64 w), .d (.int .i64 q)] k = match box (lentA hq [.sl id0 g0 o0 len0, .d (.int .i64 w), .d (.int .i64 q)]) with
  | .mk (some fs) => kLent (evCall env L n) 80 fs fun r => k r hq
  | _ => none := kCall_lent xei
theorem x26 {R : Type} {L n : Nat} (hL : 2 ^ 60 ≤ L) (hn : 3 ≤ n) {al : Int} {rs : List (List Int)} {ac : List Bool} (hs : rowsShort rs) {k : Exit → List A → H → Option R} : ∀ (j : Nat) (i : Int) (m : Nat) (h0 : 0 ≤ i) (hi : i + j = rs.length) (hm : j < m),
  kLoop env (evCall env L n) L 0 [] (Z1 (U4 (Z32 (Z4 (Z2 (Z1 ([]))))))) (x4c 0) (U1 (Z4 (U32 (U4 (U2 (U1 ([]))))))) m (Y1 (.ptr 0 0 0 :: .d (.bool false) :: .d (.int .i64 (rs.length)) :: .d (.int .i64 i) :: Y32 (Y4 (Y2 (Y1 ([])))))) [.box [.d (.int .i64 al), .d (.ivs rs.length (rowsD rs)), .d (.ivs ac.length (bools ac))]] k
  = match seek (rowBadAt (letters al).length rs.length rs) j i.toNat with
   | none => k (.exit 0) (Y1 (.ptr 0 0 0 :: .d (.bool false) :: .d (.int .i64 (rs.length)) :: .d (.int .i64 (rs.length)) :: Y32 (Y4 (Y2 (Y1 ([])))))) [.box [.d (.int .i64 al), .d (.ivs rs.length (rowsD rs)), .d (.ivs ac.length (bools ac))]]
   | some q => k .ret (Y1 (.ptr 0 0 0 :: .d (.bool false) :: .d (.int .i64 (rs.length)) :: .d (.int .i64 q) :: Y32 (Y4 (Y2 (Y1 ([])))))) [.box [.d (.int .i64 al), .d (.ivs rs.length (rowsD rs)), .d (.ivs ac.length (bools ac))]] := by
 intro j
 have hrl := hs.1
 have hll := letters_len al
 induction j with
 | zero =>
  intro i m h0 hi hm
  obtain ⟨m, rfl⟩ : ∃ q, m = q + 1 := ⟨m - 1, by omega⟩
  obtain rfl : i = rs.length := by omega
  rw [x5u]
  simp only [x5e, Try.f41, SLM, simprocAttr]
  simp -implicitDefEqProofs (maxSteps := 2000000) (disch := first | assumption | (refine Shut.mk ?_; kernel_rfl) | omega | (simp only [GT]; done) | (simp only [LN] <;> omega) | fail) only [↓DN, ↓kAsg, ↓kRet, UP, simprocAttr, ↓x14, ↓xc, ↓x5f, ↓x5g, ↓x3o, LA, Int.lt_irrefl]
  rfl
 | succ j ih =>
  intro i m h0 hi hm
  obtain ⟨m, rfl⟩ : ∃ q, m = q + 1 := ⟨m - 1, by omega⟩
  have hc : i < rs.length := by omega
  have hk : i.toNat < rs.length := by omega
  have hrow := short_at hs hk
  have e1 : (i + 1).toNat = i.toNat + 1 := by omega
  have e3 : ((i.toNat : Nat) : Int) = i := by omega
  cases hb : rowBadAt (letters al).length rs.length rs i.toNat with
  | true =>
   rw [seek_pos hb]
   unfold rowBadAt at hb
   rw [x5u]
   simp only [x5e, Try.f41, SLM, simprocAttr]
   simp -implicitDefEqProofs (maxSteps := 2000000) (disch := first | assumption | (refine Shut.mk ?_; kernel_rfl) | omega | (simp only [GT]; done) | (simp only [LN] <;> omega) | fail) only [↓DN, ↓kAsg, ↓kRet, UP, simprocAttr, ↓x14, ↓xc, ↓x5f, ↓x5g, ↓x3o, LA, u_intss, c_ints, hc, hb, e3]
  | false =>
   rw [seek_neg hb]
   unfold rowBadAt at hb
   rw [x5u]
   simp only [x5e, Try.f41, SLM, simprocAttr]
   simp -implicitDefEqProofs (maxSteps := 2000000) (disch := first | assumption | (refine Shut.mk ?_; kernel_rfl) | omega | (simp only [GT]; done) | (simp only [LN] <;> omega) | fail) only [↓DN, ↓kAsg, ↓kRet, UP, simprocAttr, ↓x14, ↓xc, ↓x5f, ↓x5g, ↓x3o, LA, u_intss, c_ints, hc, hb, ↓ih, e1]
theorem xbr {L n : Nat} (hn : 4 ≤ n) (al : Int) (rs : List (List Int)) (ac : List Bool) (hs : rowsShort rs) (ha : ac.length ≤ 4294967296) (hL : 2 ^ 60 ≤ L) : evCall env L n 41 [.agg [.d (.int .i64 al), .d (.ivs rs.length (rowsD rs)), .d (.ivs ac.length (bools ac))]] [] = some (.d (.bool (autOK al rs ac)), []) := by
 have hrl := hs.1
 have loop_a := fun {R : Type} {n : Nat} (hn : 3 ≤ n) {k : Exit → List A → H → Option R} => x26 (R := R) (L := L) hL hn (al := al) (ac := ac) hs (k := k) rs.length 0 L (by omega) (by omega) (by omega)
 simp only [Int.toNat_zero] at loop_a
 unfold autOK
 cases hq : isAlpha al with
 | false =>
  obtain ⟨n, rfl⟩ : ∃ m, n = m + 1 := ⟨n - 1, by omega⟩
  rw [x34]
  simp only [x2t, Try.f41, SLM, simprocAttr]
  simp -implicitDefEqProofs (maxSteps := 2000000) (disch := first | assumption | (refine Shut.mk ?_; kernel_rfl) | omega | (simp only [GT]; done) | (simp only [LN] <;> omega) | fail) only [↓DN, ↓kAsg, ↓kRet, UP, simprocAttr, ↓x14, ↓xc, ↓x5f, ↓x5g, ↓x3o, ↓x26, LA, hq, Bool.false_and]
 | true =>
  by_cases h1 : (1 : Int) ≤ rs.length
  ·have n1 : ¬ (rs.length : Int) < 1 := by omega
   by_cases h2 : (rs.length : Int) ≤ 12
   ·have n2 : ¬ (12 : Int) < rs.length := by omega
    by_cases h3 : (ac.length : Int) = rs.length
    ·cases hk : seek (rowBadAt (letters al).length rs.length rs) rs.length 0 with
     | none =>
      rw [hk] at loop_a
      obtain ⟨n, rfl⟩ : ∃ m, n = m + 1 := ⟨n - 1, by omega⟩
      rw [x34]
      simp only [x2t, Try.f41, SLM, simprocAttr]
      simp -implicitDefEqProofs (maxSteps := 2000000) (disch := first | assumption | (refine Shut.mk ?_; kernel_rfl) | omega | (simp only [GT]; done) | (simp only [LN] <;> omega) | fail) only [↓DN, ↓kAsg, ↓kRet, UP, simprocAttr, ↓x14, ↓xc, ↓x5f, ↓x5g, ↓x3o, ↓x26, LA, hq, h1, n1, h2, n2, h3, hk, ↓loop_a]
     | some z =>
      rw [hk] at loop_a
      obtain ⟨n, rfl⟩ : ∃ m, n = m + 1 := ⟨n - 1, by omega⟩
      rw [x34]
      simp only [x2t, Try.f41, SLM, simprocAttr]
      simp -implicitDefEqProofs (maxSteps := 2000000) (disch := first | assumption | (refine Shut.mk ?_; kernel_rfl) | omega | (simp only [GT]; done) | (simp only [LN] <;> omega) | fail) only [↓DN, ↓kAsg, ↓kRet, UP, simprocAttr, ↓x14, ↓xc, ↓x5f, ↓x5g, ↓x3o, ↓x26, LA, hq, h1, n1, h2, n2, h3, hk, ↓loop_a, Bool.and_false]
    ·obtain ⟨n, rfl⟩ : ∃ m, n = m + 1 := ⟨n - 1, by omega⟩
     rw [x34]
     simp only [x2t, Try.f41, SLM, simprocAttr]
     simp -implicitDefEqProofs (maxSteps := 2000000) (disch := first | assumption | (refine Shut.mk ?_; kernel_rfl) | omega | (simp only [GT]; done) | (simp only [LN] <;> omega) | fail) only [↓DN, ↓kAsg, ↓kRet, UP, simprocAttr, ↓x14, ↓xc, ↓x5f, ↓x5g, ↓x3o, ↓x26, LA, hq, h1, n1, h2, n2, h3, Bool.false_and, Bool.and_false]
   ·have n2 : (12 : Int) < rs.length := by omega
    obtain ⟨n, rfl⟩ : ∃ m, n = m + 1 := ⟨n - 1, by omega⟩
    rw [x34]
    simp only [x2t, Try.f41, SLM, simprocAttr]
    simp -implicitDefEqProofs (maxSteps := 2000000) (disch := first | assumption | (refine Shut.mk ?_; kernel_rfl) | omega | (simp only [GT]; done) | (simp only [LN] <;> omega) | fail) only [↓DN, ↓kAsg, ↓kRet, UP, simprocAttr, ↓x14, ↓xc, ↓x5f, ↓x5g, ↓x3o, ↓x26, LA, hq, h1, n1, h2, n2, Bool.false_and, Bool.and_false]
  ·have n1 : (rs.length : Int) < 1 := by omega
   obtain ⟨n, rfl⟩ : ∃ m, n = m + 1 := ⟨n - 1, by omega⟩
   rw [x34]
   simp only [x2t, Try.f41, SLM, simprocAttr]
   simp -implicitDefEqProofs (maxSteps := 2000000) (disch := first | assumption | (refine Shut.mk ?_; kernel_rfl) | omega | (simp only [GT]; done) | (simp only [LN] <;> omega) | fail) only [↓DN, ↓kAsg, ↓kRet, UP, simprocAttr, ↓x14, ↓xc, ↓x5f, ↓x5g, ↓x3o, ↓x26, LA, hq, h1, n1, Bool.false_and, Bool.and_false]
theorem x1g {R : Type} {L n : Nat} {hq : H} {k : A → H → Option R} (hn : 4 ≤ n) (al : Int) (rs : List (List Int)) (ac : List Bool) (hs : rowsShort rs) (ha : ac.length ≤ 4294967296) (hL : 2 ^ 60 ≤ L) : kCall env (evCall env L n) hq 41 [.agg [.d (.int .i64 al), .d (.ivs rs.length (rowsD rs)), .d (.ivs ac.length (bools ac))]] k = k (.d (.bool (autOK al rs ac))) hq :=
 kCall_still rfl (xbr hn al rs ac hs ha hL) rfl (.inl rfl)
theorem x1i {R : Type} {L n : Nat} {k : A → Option R} (hn : 4 ≤ n) (al : Int) (rs : List (List Int)) (ac : List Bool) (hs : rowsShort rs) (ha : ac.length ≤ 4294967296) (hL : 2 ^ 60 ≤ L) : kLent (evCall env L n) 41 [.agg [.d (.int .i64 al), .d (.ivs rs.length (rowsD rs)), .d (.ivs ac.length (bools ac))]] k = k (.d (.bool (autOK al rs ac))) :=
 kLent_ev (xbr hn al rs ac hs ha hL) rfl
theorem x1d {R : Type} {L n : Nat} {hq : H} {k : A → H → Option R} {id0 g0 o0 len0 : Nat} {al : Int} {ac : List Bool} : kCall env (evCall env L n) hq 41 [.agg [.d (.int .i64 al), .sl id0 g0 o0 len0, .d (.ivs ac.length (bools ac))]] k = match box (lentA hq [.agg [.d (.int .i64 al), .sl id0 g0 o0 len0, .d (.ivs ac.length (bools ac))]]) with
  | .mk (some fs) => kLent (evCall env L n) 41 fs fun r => k r hq
  | _ => none := kCall_lent x3b
theorem x1b {R : Type} {L n : Nat} {hq : H} {k : A → H → Option R} {id1 g1 o1 len1 : Nat} {al : Int} {rs : List (List Int)} : kCall env (evCall env L n) hq 41 [.agg [.d (.int .i64 al), .d (.ivs rs.length (rowsD rs)), .sl id1 g1 o1 len1]] k = match box (lentA hq [.agg [.d (.int .i64 al), .d (.ivs rs.length (rowsD rs)), .sl id1 g1 o1 len1]]) with
  | .mk (some fs) => kLent (evCall env L n) 41 fs fun r => k r hq
  | _ => none := kCall_lent x3b
theorem x1c {R : Type} {L n : Nat} {hq : H} {k : A → H → Option R} {id1 g1 o1 len1 : Nat} {id0 g0 o0 len0 : Nat} {al : Int} : kCall env (evCall env L n) hq 41 [.agg [.d (.int .i64 al), .sl id0 g0 o0 len0, .sl id1 g1 o1 len1]] k = match box (lentA hq [.agg [.d (.int .i64 al), .sl id0 g0 o0 len0, .sl id1 g1 o1 len1]]) with
  | .mk (some fs) => kLent (evCall env L n) 41 fs fun r => k r hq
  | _ => none := kCall_lent x3b
theorem x10 {R : Type} {L n : Nat} (hL : 2 ^ 60 ≤ L) (hn : 3 ≤ n) {al q w : Int} {rs : List (List Int)} {ac : List Bool} (hs : rowsShort rs) {r : List Int} (hr : r.length ≤ 4294967296) {k : Exit → List A → H → Option R} : ∀ (j : Nat) (i : Int) (m : Nat) (h0 : 0 ≤ i) (hi : i + j = r.length) (hm : j < m),
  kLoop env (evCall env L n) L 0 [] (Z1 (U2 (U1 (Z32 (Z2 (U2 (U1 (Z4 (Z2 (Z1 (U2 (U1 (Z8 (Z4 (Z2 ([])))))))))))))))) (x1h 1) (U1 (Z2 (Z1 (U32 (U2 (Z2 (Z1 (U4 (U2 (U1 (Z2 (Z1 (U8 (U4 (U2 ([])))))))))))))))) m (Y1 (.ptr 0 0 0 :: .d (.bool false) :: .d (.int .i64 w) :: Y32 (Y2 (.d (.ivs rs.length (rowsD rs)) :: .d (.int .i64 (rs.length)) :: .d (.int .i64 q) :: Y4 (Y2 (Y1 (.d (.ivs r.length (ints r)) :: .d (.int .i64 (r.length)) :: .d (.int .i64 i) :: Y8 (Y4 (Y2 ([])))))))))) [.box [.d (.int .i64 al), .d (.ivs rs.length (rowsD rs)), .d (.ivs ac.length (bools ac))]] k
  = match seek (badQ rs.length r) j i.toNat with
   | none => k (.exit 2) (Y1 (.ptr 0 0 0 :: .d (.bool false) :: .d (.int .i64 w) :: Y32 (Y2 (.d (.ivs rs.length (rowsD rs)) :: .d (.int .i64 (rs.length)) :: .d (.int .i64 q) :: Y4 (Y2 (Y1 (.d (.ivs r.length (ints r)) :: .d (.int .i64 (r.length)) :: .d (.int .i64 (r.length)) :: Y8 (Y4 (Y2 ([])))))))))) [.box [.d (.int .i64 al), .d (.ivs rs.length (rowsD rs)), .d (.ivs ac.length (bools ac))]]
   | some z => k .ret (Y1 (.ptr 0 0 0 :: .d (.bool false) :: .d (.int .i64 w) :: Y32 (Y2 (.d (.ivs rs.length (rowsD rs)) :: .d (.int .i64 (rs.length)) :: .d (.int .i64 q) :: Y4 (Y2 (Y1 (.d (.ivs r.length (ints r)) :: .d (.int .i64 (r.length)) :: .d (.int .i64 z) :: Y8 (Y4 (Y2 ([])))))))))) [.box [.d (.int .i64 al), .d (.ivs rs.length (rowsD rs)), .d (.ivs ac.length (bools ac))]] := by
 intro j
 have hrl := hs.1
 induction j with
 | zero =>
  intro i m h0 hi hm
  obtain ⟨m, rfl⟩ : ∃ q, m = q + 1 := ⟨m - 1, by omega⟩
  obtain rfl : i = r.length := by omega
  rw [x42]
  simp only [x3p, Try.f15, SLM, simprocAttr]
  simp -implicitDefEqProofs (maxSteps := 2000000) (disch := first | assumption | (refine Shut.mk ?_; kernel_rfl) | omega | (simp only [GT]; done) | (simp only [LN] <;> omega) | fail) only [↓DN, ↓kAsg, ↓kRet, UP, simprocAttr, ↓x4, ↓x3, LA, Int.lt_irrefl]
  rfl
 | succ j ih =>
  intro i m h0 hi hm
  obtain ⟨m, rfl⟩ : ∃ q, m = q + 1 := ⟨m - 1, by omega⟩
  have hc : i < r.length := by omega
  have hk : i.toNat < r.length := by omega
  have e1 : (i + 1).toNat = i.toNat + 1 := by omega
  have e3 : ((i.toNat : Nat) : Int) = i := by omega
  by_cases h1 : r.getD i.toNat 0 < 0
  ·have hb : badQ rs.length r i.toNat = true := by rw [badQ_true]; omega
   rw [seek_pos hb]
   rw [x42]
   simp only [x3p, Try.f15, SLM, simprocAttr]
   simp -implicitDefEqProofs (maxSteps := 2000000) (disch := first | assumption | (refine Shut.mk ?_; kernel_rfl) | omega | (simp only [GT]; done) | (simp only [LN] <;> omega) | fail) only [↓DN, ↓kAsg, ↓kRet, UP, simprocAttr, ↓x4, ↓x3, LA, u_ints, c_int, hc, h1, e3]
  ·by_cases h2 : (rs.length : Int) ≤ r.getD i.toNat 0
   ·have hb : badQ rs.length r i.toNat = true := by rw [badQ_true]; omega
    rw [seek_pos hb]
    rw [x42]
    simp only [x3p, Try.f15, SLM, simprocAttr]
    simp -implicitDefEqProofs (maxSteps := 2000000) (disch := first | assumption | (refine Shut.mk ?_; kernel_rfl) | omega | (simp only [GT]; done) | (simp only [LN] <;> omega) | fail) only [↓DN, ↓kAsg, ↓kRet, UP, simprocAttr, ↓x4, ↓x3, LA, u_ints, c_int, hc, h1, h2, e3]
   ·have hb : badQ rs.length r i.toNat = false := by rw [badQ_false]; omega
    rw [seek_neg hb]
    rw [x42]
    simp only [x3p, Try.f15, SLM, simprocAttr]
    simp -implicitDefEqProofs (maxSteps := 2000000) (disch := first | assumption | (refine Shut.mk ?_; kernel_rfl) | omega | (simp only [GT]; done) | (simp only [LN] <;> omega) | fail) only [↓DN, ↓kAsg, ↓kRet, UP, simprocAttr, ↓x4, ↓x3, LA, u_ints, c_int, hc, h1, h2, ↓ih, e1]
theorem x1l {R : Type} {L n : Nat} (hL : 2 ^ 60 ≤ L) (hn : 3 ≤ n) {al : Int} {rs : List (List Int)} {ac : List Bool} (hs : rowsShort rs) {k : Exit → List A → H → Option R} : ∀ (j : Nat) (i : Int) (m : Nat) (h0 : 0 ≤ i) (hi : i + j = rs.length) (hm : j < m),
  kLoop env (evCall env L n) L 0 [] (Z1 (U2 (U1 (Z32 (Z2 (U2 (U1 (Z4 (Z2 (Z1 (U2 (U1 (Z8 (Z4 (Z2 ([])))))))))))))))) (x1h 0) (U1 (Z2 (Z1 (U32 (U2 (Z2 (Z1 (U16 (U8 ([])))))))))) m (Y1 (.ptr 0 0 0 :: .d (.bool false) :: .d (.int .i64 ((letters al).length)) :: Y32 (Y2 (.d (.ivs rs.length (rowsD rs)) :: .d (.int .i64 (rs.length)) :: .d (.int .i64 i) :: Y16 (Y8 ([])))))) [.box [.d (.int .i64 al), .d (.ivs rs.length (rowsD rs)), .d (.ivs ac.length (bools ac))]] k
  = match seek (rowBadAt (letters al).length rs.length rs) j i.toNat with
   | none => k (.exit 0) (Y1 (.ptr 0 0 0 :: .d (.bool false) :: .d (.int .i64 ((letters al).length)) :: Y32 (Y2 (.d (.ivs rs.length (rowsD rs)) :: .d (.int .i64 (rs.length)) :: .d (.int .i64 (rs.length)) :: Y16 (Y8 ([])))))) [.box [.d (.int .i64 al), .d (.ivs rs.length (rowsD rs)), .d (.ivs ac.length (bools ac))]]
   | some q => k .ret (Y1 (.ptr 0 0 0 :: .d (.bool false) :: .d (.int .i64 ((letters al).length)) :: Y32 (Y2 (.d (.ivs rs.length (rowsD rs)) :: .d (.int .i64 (rs.length)) :: .d (.int .i64 q) :: Y16 (Y8 ([])))))) [.box [.d (.int .i64 al), .d (.ivs rs.length (rowsD rs)), .d (.ivs ac.length (bools ac))]] := by
 intro j
 have hrl := hs.1
 have hll := letters_len al
 induction j with
 | zero =>
  intro i m h0 hi hm
  obtain ⟨m, rfl⟩ : ∃ q, m = q + 1 := ⟨m - 1, by omega⟩
  obtain rfl : i = rs.length := by omega
  rw [x41]
  simp only [x3n, Try.f15, SLM, simprocAttr]
  simp -implicitDefEqProofs (maxSteps := 2000000) (disch := first | assumption | (refine Shut.mk ?_; kernel_rfl) | omega | (simp only [GT]; done) | (simp only [LN] <;> omega) | fail) only [↓DN, ↓kAsg, ↓kRet, UP, simprocAttr, ↓x4, ↓x3, ↓x10, LA, Int.lt_irrefl]
  rfl
 | succ j ih =>
  intro i m h0 hi hm
  obtain ⟨m, rfl⟩ : ∃ q, m = q + 1 := ⟨m - 1, by omega⟩
  have hc : i < rs.length := by omega
  have hk : i.toNat < rs.length := by omega
  have hrow := short_at hs hk
  have e1 : (i + 1).toNat = i.toNat + 1 := by omega
  have e3 : ((i.toNat : Nat) : Int) = i := by omega
  have loop_a := fun {R : Type} {k : Exit → List A → H → Option R} => x10 (R := R) (n := n) (L := L) hL hn (al := al) (q := i) (w := (letters al).length) (ac := ac) hs hrow (k := k) (rs.getD i.toNat []).length 0 L (by omega) (by omega) (by omega)
  simp only [Int.toNat_zero] at loop_a
  cases hb : rowBadAt (letters al).length rs.length rs i.toNat with
  | true =>
   rw [seek_pos hb]
   unfold rowBadAt at hb
   by_cases hw : ((rs.getD i.toNat []).length : Int) = (letters al).length
   ·have hwd : decide (((rs.getD i.toNat []).length : Int) = (letters al).length) = true := decide_eq_true hw
    cases hz : seek (badQ rs.length (rs.getD i.toNat [])) (rs.getD i.toNat []).length 0 with
    | none => rw [rowBad_s hw, hz] at hb; cases hb
    | some z =>
     rw [hz] at loop_a
     clear ih hb
     rw [x41]
     simp only [x3n, Try.f15, SLM, simprocAttr]
     simp -implicitDefEqProofs (maxSteps := 2000000) (disch := first | assumption | (refine Shut.mk ?_; kernel_rfl) | omega | (simp only [GT]; done) | (simp only [LN] <;> omega) | fail) only [↓DN, ↓kAsg, ↓kRet, UP, simprocAttr, ↓x4, ↓x3, ↓x10, LA, u_intss, c_ints, hc, hwd, ↓loop_a, e3]
   ·clear ih hb loop_a
    rw [x41]
    simp only [x3n, Try.f15, SLM, simprocAttr]
    simp -implicitDefEqProofs (maxSteps := 2000000) (disch := first | assumption | (refine Shut.mk ?_; kernel_rfl) | omega | (simp only [GT]; done) | (simp only [LN] <;> omega) | fail) only [↓DN, ↓kAsg, ↓kRet, UP, simprocAttr, ↓x4, ↓x3, ↓x10, LA, u_intss, c_ints, hc, hw, e3]
  | false =>
   rw [seek_neg hb]
   unfold rowBadAt at hb
   by_cases hw : ((rs.getD i.toNat []).length : Int) = (letters al).length
   ·have hwd : decide (((rs.getD i.toNat []).length : Int) = (letters al).length) = true := decide_eq_true hw
    cases hz : seek (badQ rs.length (rs.getD i.toNat [])) (rs.getD i.toNat []).length 0 with
    | none =>
     rw [hz] at loop_a
     clear hb
     rw [x41]
     simp only [x3n, Try.f15, SLM, simprocAttr]
     simp -implicitDefEqProofs (maxSteps := 2000000) (disch := first | assumption | (refine Shut.mk ?_; kernel_rfl) | omega | (simp only [GT]; done) | (simp only [LN] <;> omega) | fail) only [↓DN, ↓kAsg, ↓kRet, UP, simprocAttr, ↓x4, ↓x3, ↓x10, LA, u_intss, c_ints, hc, hwd, ↓loop_a, ↓ih, e1]
    | some z => rw [rowBad_s hw, hz] at hb; cases hb
   ·rw [rowBad_w hw] at hb; cases hb
theorem xbc {L n : Nat} (hn : 4 ≤ n) (al : Int) (rs : List (List Int)) (ac : List Bool) (hs : rowsShort rs) (ha : ac.length ≤ 4294967296) (hL : 2 ^ 60 ≤ L) : evCall env L n 15 [.agg [.d (.int .i64 al), .d (.ivs rs.length (rowsD rs)), .d (.ivs ac.length (bools ac))]] [] = some (.d (.bool (autOK al rs ac)), []) := by
 have hrl := hs.1
 have hll := letters_len al
 have loop_a := fun {R : Type} {n : Nat} (hn : 3 ≤ n) {k : Exit → List A → H → Option R} => x1l (R := R) (L := L) hL hn (al := al) (ac := ac) hs (k := k) rs.length 0 L (by omega) (by omega) (by omega)
 simp only [Int.toNat_zero] at loop_a
 unfold autOK
 cases hq : isAlpha al with
 | false =>
  obtain ⟨n, rfl⟩ : ∃ m, n = m + 1 := ⟨n - 1, by omega⟩
  rw [x36]
  simp only [x2u, Try.f15, SLM, simprocAttr]
  simp -implicitDefEqProofs (maxSteps := 2000000) (disch := first | assumption | (refine Shut.mk ?_; kernel_rfl) | omega | (simp only [GT]; done) | (simp only [LN] <;> omega) | fail) only [↓DN, ↓kAsg, ↓kRet, UP, simprocAttr, ↓x4, ↓x3, ↓x1l, ↓x10, LA, hq, Bool.false_and]
 | true =>
  by_cases h1 : (1 : Int) ≤ rs.length
  ·have n1 : ¬ (rs.length : Int) < 1 := by omega
   by_cases h2 : (rs.length : Int) ≤ 12
   ·have n2 : ¬ (12 : Int) < rs.length := by omega
    by_cases h3 : (ac.length : Int) = rs.length
    ·cases hk : seek (rowBadAt (letters al).length rs.length rs) rs.length 0 with
     | none =>
      rw [hk] at loop_a
      obtain ⟨n, rfl⟩ : ∃ m, n = m + 1 := ⟨n - 1, by omega⟩
      rw [x36]
      simp only [x2u, Try.f15, SLM, simprocAttr]
      simp -implicitDefEqProofs (maxSteps := 2000000) (disch := first | assumption | (refine Shut.mk ?_; kernel_rfl) | omega | (simp only [GT]; done) | (simp only [LN] <;> omega) | fail) only [↓DN, ↓kAsg, ↓kRet, UP, simprocAttr, ↓x4, ↓x3, ↓x1l, ↓x10, LA, hq, h1, n1, h2, n2, h3, hk, ↓loop_a]
     | some z =>
      rw [hk] at loop_a
      obtain ⟨n, rfl⟩ : ∃ m, n = m + 1 := ⟨n - 1, by omega⟩
      rw [x36]
      simp only [x2u, Try.f15, SLM, simprocAttr]
      simp -implicitDefEqProofs (maxSteps := 2000000) (disch := first | assumption | (refine Shut.mk ?_; kernel_rfl) | omega | (simp only [GT]; done) | (simp only [LN] <;> omega) | fail) only [↓DN, ↓kAsg, ↓kRet, UP, simprocAttr, ↓x4, ↓x3, ↓x1l, ↓x10, LA, hq, h1, n1, h2, n2, h3, hk, ↓loop_a, Bool.and_false]
    ·obtain ⟨n, rfl⟩ : ∃ m, n = m + 1 := ⟨n - 1, by omega⟩
     rw [x36]
     simp only [x2u, Try.f15, SLM, simprocAttr]
     simp -implicitDefEqProofs (maxSteps := 2000000) (disch := first | assumption | (refine Shut.mk ?_; kernel_rfl) | omega | (simp only [GT]; done) | (simp only [LN] <;> omega) | fail) only [↓DN, ↓kAsg, ↓kRet, UP, simprocAttr, ↓x4, ↓x3, ↓x1l, ↓x10, LA, hq, h1, n1, h2, n2, h3, Bool.false_and, Bool.and_false]
   ·have n2 : (12 : Int) < rs.length := by omega
    obtain ⟨n, rfl⟩ : ∃ m, n = m + 1 := ⟨n - 1, by omega⟩
    rw [x36]
    simp only [x2u, Try.f15, SLM, simprocAttr]
    simp -implicitDefEqProofs (maxSteps := 2000000) (disch := first | assumption | (refine Shut.mk ?_; kernel_rfl) | omega | (simp only [GT]; done) | (simp only [LN] <;> omega) | fail) only [↓DN, ↓kAsg, ↓kRet, UP, simprocAttr, ↓x4, ↓x3, ↓x1l, ↓x10, LA, hq, h1, n1, h2, n2, Bool.false_and, Bool.and_false]
  ·have n1 : (rs.length : Int) < 1 := by omega
   obtain ⟨n, rfl⟩ : ∃ m, n = m + 1 := ⟨n - 1, by omega⟩
   rw [x36]
   simp only [x2u, Try.f15, SLM, simprocAttr]
   simp -implicitDefEqProofs (maxSteps := 2000000) (disch := first | assumption | (refine Shut.mk ?_; kernel_rfl) | omega | (simp only [GT]; done) | (simp only [LN] <;> omega) | fail) only [↓DN, ↓kAsg, ↓kRet, UP, simprocAttr, ↓x4, ↓x3, ↓x1l, ↓x10, LA, hq, h1, n1, Bool.false_and, Bool.and_false]
theorem x9 {R : Type} {L n : Nat} {hq : H} {k : A → H → Option R} (hn : 4 ≤ n) (al : Int) (rs : List (List Int)) (ac : List Bool) (hs : rowsShort rs) (ha : ac.length ≤ 4294967296) (hL : 2 ^ 60 ≤ L) : kCall env (evCall env L n) hq 15 [.agg [.d (.int .i64 al), .d (.ivs rs.length (rowsD rs)), .d (.ivs ac.length (bools ac))]] k = k (.d (.bool (autOK al rs ac))) hq :=
 kCall_still rfl (xbc hn al rs ac hs ha hL) rfl (.inl rfl)
theorem xa {R : Type} {L n : Nat} {k : A → Option R} (hn : 4 ≤ n) (al : Int) (rs : List (List Int)) (ac : List Bool) (hs : rowsShort rs) (ha : ac.length ≤ 4294967296) (hL : 2 ^ 60 ≤ L) : kLent (evCall env L n) 15 [.agg [.d (.int .i64 al), .d (.ivs rs.length (rowsD rs)), .d (.ivs ac.length (bools ac))]] k = k (.d (.bool (autOK al rs ac))) :=
 kLent_ev (xbc hn al rs ac hs ha hL) rfl
theorem x7 {R : Type} {L n : Nat} {hq : H} {k : A → H → Option R} {id0 g0 o0 len0 : Nat} {al : Int} {ac : List Bool} : kCall env (evCall env L n) hq 15 [.agg [.d (.int .i64 al), .sl id0 g0 o0 len0, .d (.ivs ac.length (bools ac))]] k = match box (lentA hq [.agg [.d (.int .i64 al), .sl id0 g0 o0 len0, .d (.ivs ac.length (bools ac))]]) with
  | .mk (some fs) => kLent (evCall env L n) 15 fs fun r => k r hq
  | _ => none := kCall_lent x3c
theorem x5 {R : Type} {L n : Nat} {hq : H} {k : A → H → Option R} {id1 g1 o1 len1 : Nat} {al : Int} {rs : List (List Int)} : kCall env (evCall env L n) hq 15 [.agg [.d (.int .i64 al), .d (.ivs rs.length (rowsD rs)), .sl id1 g1 o1 len1]] k = match box (lentA hq [.agg [.d (.int .i64 al), .d (.ivs rs.length (rowsD rs)), .sl id1 g1 o1 len1]]) with
  | .mk (some fs) => kLent (evCall env L n) 15 fs fun r => k r hq
  | _ => none := kCall_lent x3c
theorem x6 {R : Type} {L n : Nat} {hq : H} {k : A → H → Option R} {id1 g1 o1 len1 : Nat} {id0 g0 o0 len0 : Nat} {al : Int} : kCall env (evCall env L n) hq 15 [.agg [.d (.int .i64 al), .sl id0 g0 o0 len0, .sl id1 g1 o1 len1]] k = match box (lentA hq [.agg [.d (.int .i64 al), .sl id0 g0 o0 len0, .sl id1 g1 o1 len1]]) with
  | .mk (some fs) => kLent (evCall env L n) 15 fs fun r => k r hq
  | _ => none := kCall_lent x3c
end Ev
end Go.Proofs.Ytppdfjdfjfoddaa
