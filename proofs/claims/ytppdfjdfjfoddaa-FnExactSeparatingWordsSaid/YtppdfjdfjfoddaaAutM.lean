/-
  The exact laws' own functions, at automata: sizes, marks, what is held, copies.
-/
import Derived.Test.YtppdfjdfjfoddaaBlock
section
set_option linter.unusedSimpArgs false
set_option linter.unusedVariables false
set_option maxRecDepth 8000
set_option pp.maxSteps 6000
set_option maxHeartbeats 4000000
namespace Go.Proofs.Ytppdfjdfjfoddaa
namespace Ev
def rowsLen (rs : List (List Int)) : Prop := rs.length ≤ 9223372036854775807 ∧ ∀ r ∈ rs, r.length ≤ 9223372036854775807
theorem rowsLen_at {rs : List (List Int)} (h : rowsLen rs) {k : Nat} (hk : k < rs.length) : (rs.getD k []).length ≤ 9223372036854775807 := by
 rw [List.getD_eq_getElem?_getD, List.getElem?_eq_getElem hk]
 exact h.2 _ (List.getElem_mem hk)
def szN (left : Int) (n : Nat) : Int := if left < n then -1 else left - n
def szRows : List (List Int) → Int → Int
 | [], l => l
 | r :: rs, l => if l < r.length then -1 else szRows rs (l - r.length)
def szAt : List (List Int) → Int → Nat
 | [], _ => 0
 | r :: rs, l => if l < r.length then 0 else szAt rs (l - r.length) + 1
def szSS (rs : List (List Int)) (left : Int) : Int := if left < rs.length then -1 else szRows rs (left - rs.length)
def szA (rs : List (List Int)) (ac : List Bool) (left : Int) : Int := if szSS rs left < 0 then -1 else szN (szSS rs left) ac.length
theorem szRows_neg : ∀ (rs : List (List Int)) (l : Int), szRows rs l < 0 → 0 ≤ l → szRows rs l = -1
 | [], l, h, h0 => by simp only [szRows] at h; omega
 | r :: rs, l, h, h0 => by
  simp only [szRows] at h ⊢
  split
  ·rfl
  ·rename_i hc
   rw [if_neg hc] at h
   exact szRows_neg rs _ h (by omega)
theorem szRows_le : ∀ (rs : List (List Int)) (l : Int), 0 ≤ l → szRows rs l ≤ l
 | [], l, h => by simp [szRows]
 | r :: rs, l, h => by
  simp only [szRows]
  split
  ·omega
  ·have := szRows_le rs (l - r.length) (by omega); omega
theorem szRows_all : ∀ (rs : List (List Int)) (l : Int), 0 ≤ szRows rs l → ∀ r ∈ rs, (r.length : Int) ≤ l
 | [], l, h, r, hr => by cases hr
 | q :: rs, l, h, r, hr => by
  simp only [szRows] at h
  split at h
  ·omega
  ·rename_i hc
   rcases List.mem_cons.1 hr with h1 | h1
   ·subst h1; omega
   ·have := szRows_all rs _ h r h1; omega
theorem xsj {L n : Nat} (hn : 1 ≤ n) (l : List Int) (left : Int) (hl : l.length ≤ 9223372036854775807) (h0 : 0 ≤ left) (h1 : left ≤ 4294967296) : evCall env L n 84 [.d (.ivs l.length (ints l)), .d (.int .i64 left)] [] = some (.d (.int .i64 (szN left l.length)), []) := by
 unfold szN
 by_cases h : left < l.length
 ·have h2 : left - (l.length : Int) < 0 := by omega
  obtain ⟨n, rfl⟩ : ∃ m, n = m + 1 := ⟨n - 1, by omega⟩
  rw [xsf]
  simp only [xpi, Try.f84, SLM, simprocAttr]
  simp -implicitDefEqProofs (maxSteps := 2000000) (disch := first | assumption | (refine Shut.mk ?_; kernel_rfl) | omega | (simp only [GT]; done) | (simp only [LN] <;> omega) | fail) only [↓DN, ↓kAsg, ↓kRet, UP, simprocAttr, LA, h, h2]
 ·have h2 : ¬ left - (l.length : Int) < 0 := by omega
  obtain ⟨n, rfl⟩ : ∃ m, n = m + 1 := ⟨n - 1, by omega⟩
  rw [xsf]
  simp only [xpi, Try.f84, SLM, simprocAttr]
  simp -implicitDefEqProofs (maxSteps := 2000000) (disch := first | assumption | (refine Shut.mk ?_; kernel_rfl) | omega | (simp only [GT]; done) | (simp only [LN] <;> omega) | fail) only [↓DN, ↓kAsg, ↓kRet, UP, simprocAttr, LA, h, h2]
theorem xb7 {R : Type} {L n : Nat} {hq : H} {k : A → H → Option R} (hn : 1 ≤ n) (l : List Int) (left : Int) (hl : l.length ≤ 9223372036854775807) (h0 : 0 ≤ left) (h1 : left ≤ 4294967296) : kCall env (evCall env L n) hq 84 [.d (.ivs l.length (ints l)), .d (.int .i64 left)] k = k (.d (.int .i64 (szN left l.length))) hq :=
 kCall_still rfl (xsj hn l left hl h0 h1) rfl (.inl rfl)
theorem xb8 {R : Type} {L n : Nat} {k : A → Option R} (hn : 1 ≤ n) (l : List Int) (left : Int) (hl : l.length ≤ 9223372036854775807) (h0 : 0 ≤ left) (h1 : left ≤ 4294967296) : kLent (evCall env L n) 84 [.d (.ivs l.length (ints l)), .d (.int .i64 left)] k = k (.d (.int .i64 (szN left l.length))) :=
 kLent_ev (xsj hn l left hl h0 h1) rfl
theorem x7k {R : Type} {L n : Nat} {hq : H} {k : A → H → Option R} {id0 g0 o0 len0 : Nat} {left : Int} : kCall env (evCall env L n) hq 84 [.sl id0 g0 o0 len0, .d (.int .i64 left)] k = match box (lentA hq [.sl id0 g0 o0 len0, .d (.int .i64 left)]) with
  | .mk (some fs) => kLent (evCall env L n) 84 fs fun r => k r hq
  | _ => none := kCall_lent xjb
theorem xrg {L n : Nat} (hn : 1 ≤ n) (l : List Bool) (left : Int) (hl : l.length ≤ 9223372036854775807) (h0 : 0 ≤ left) (h1 : left ≤ 4294967296) : evCall env L n 55 [.d (.ivs l.length (bools l)), .d (.int .i64 left)] [] = some (.d (.int .i64 (szN left l.length)), []) := by
 unfold szN
 by_cases h : left < l.length
 ·have h2 : left - (l.length : Int) < 0 := by omega
  obtain ⟨n, rfl⟩ : ∃ m, n = m + 1 := ⟨n - 1, by omega⟩
  rw [xpz]
  simp only [xn9, Try.f55, SLM, simprocAttr]
  simp -implicitDefEqProofs (maxSteps := 2000000) (disch := first | assumption | (refine Shut.mk ?_; kernel_rfl) | omega | (simp only [GT]; done) | (simp only [LN] <;> omega) | fail) only [↓DN, ↓kAsg, ↓kRet, UP, simprocAttr, LA, h, h2]
 ·have h2 : ¬ left - (l.length : Int) < 0 := by omega
  obtain ⟨n, rfl⟩ : ∃ m, n = m + 1 := ⟨n - 1, by omega⟩
  rw [xpz]
  simp only [xn9, Try.f55, SLM, simprocAttr]
  simp -implicitDefEqProofs (maxSteps := 2000000) (disch := first | assumption | (refine Shut.mk ?_; kernel_rfl) | omega | (simp only [GT]; done) | (simp only [LN] <;> omega) | fail) only [↓DN, ↓kAsg, ↓kRet, UP, simprocAttr, LA, h, h2]
theorem xkm {R : Type} {L n : Nat} {hq : H} {k : A → H → Option R} (hn : 1 ≤ n) (l : List Bool) (left : Int) (hl : l.length ≤ 9223372036854775807) (h0 : 0 ≤ left) (h1 : left ≤ 4294967296) : kCall env (evCall env L n) hq 55 [.d (.ivs l.length (bools l)), .d (.int .i64 left)] k = k (.d (.int .i64 (szN left l.length))) hq :=
 kCall_still rfl (xrg hn l left hl h0 h1) rfl (.inl rfl)
theorem xkn {R : Type} {L n : Nat} {k : A → Option R} (hn : 1 ≤ n) (l : List Bool) (left : Int) (hl : l.length ≤ 9223372036854775807) (h0 : 0 ≤ left) (h1 : left ≤ 4294967296) : kLent (evCall env L n) 55 [.d (.ivs l.length (bools l)), .d (.int .i64 left)] k = k (.d (.int .i64 (szN left l.length))) :=
 kLent_ev (xrg hn l left hl h0 h1) rfl
theorem xi0 {R : Type} {L n : Nat} {hq : H} {k : A → H → Option R} {id0 g0 o0 len0 : Nat} {left : Int} : kCall env (evCall env L n) hq 55 [.sl id0 g0 o0 len0, .d (.int .i64 left)] k = match box (lentA hq [.sl id0 g0 o0 len0, .d (.int .i64 left)]) with
  | .mk (some fs) => kLent (evCall env L n) 55 fs fun r => k r hq
  | _ => none := kCall_lent xh1
theorem xhn {R : Type} {L n : Nat} (hn : 2 ≤ n) {rs : List (List Int)} (hs : rowsLen rs) {k : Exit → List A → H → Option R} : ∀ (i left : Int) (m : Nat) (h0 : 0 ≤ i) (hi : i ≤ rs.length) (hm : (rs.length : Int) - i < m) (hl0 : 0 ≤ left) (hl1 : left ≤ 4294967296),
  kLoop env (evCall env L n) L 0 [] (U2 (Z2 (U2 (Z16 (Z4 (Z1 ([]))))))) (xcf 0) (Z2 (U2 (Z2 (U16 (U4 (U1 ([]))))))) m (.d (.ivs rs.length (rowsD rs)) :: .d (.int .i64 left) :: Y2 (.d (.int .i64 0) :: .d (.int .i64 i) :: Y16 (Y4 (Y1 ([]))))) [] k
  = if szRows (rs.drop i.toNat) left < 0 then k .ret (.d (.ivs rs.length (rowsD rs)) :: .d (.int .i64 ((-1))) :: Y2 (.d (.int .i64 ((-1))) :: .d (.int .i64 ((i + szAt (rs.drop i.toNat) left))) :: Y16 (Y4 (Y1 ([]))))) [] else k (.exit 0) (.d (.ivs rs.length (rowsD rs)) :: .d (.int .i64 (szRows (rs.drop i.toNat) left)) :: Y2 (.d (.int .i64 0) :: .d (.int .i64 (rs.length)) :: Y16 (Y4 (Y1 ([]))))) [] := by
 intro i left m h0 hi hm hl0 hl1
 have hrl := hs.1
 obtain ⟨j, hj⟩ : ∃ j : Nat, (j : Int) = (rs.length : Int) - i := ⟨((rs.length : Int) - i).toNat, by omega⟩
 induction j generalizing i left m with
 | zero =>
  obtain ⟨m, rfl⟩ : ∃ q, m = q + 1 := ⟨m - 1, by omega⟩
  obtain rfl : i = rs.length := by omega
  have e0 : ¬ left < 0 := by omega
  rw [xdv]
  simp only [xe4, Try.f54, SLM, simprocAttr]
  simp -implicitDefEqProofs (maxSteps := 2000000) (disch := first | assumption | (refine Shut.mk ?_; kernel_rfl) | omega | (simp only [GT]; done) | (simp only [LN] <;> omega) | fail) only [↓DN, ↓kAsg, ↓kRet, UP, simprocAttr, ↓xb7, ↓xb8, ↓x7k, LA, Int.lt_irrefl]
  simp only [Int.toNat_natCast, List.drop_length, szRows, e0, if_false]
 | succ j ih =>
  obtain ⟨m, rfl⟩ : ∃ q, m = q + 1 := ⟨m - 1, by omega⟩
  have hc : i < rs.length := by omega
  have hk : i.toNat < rs.length := by omega
  have hrow := rowsLen_at hs hk
  have e1 : (i + 1).toNat = i.toNat + 1 := by omega
  rw [drop_go hk (d := [])]
  by_cases hz : left < (rs.getD i.toNat []).length
  ·have hz1 : szN left (rs.getD i.toNat []).length = -1 := by unfold szN; rw [if_pos hz]
   rw [xdv]
   simp only [xe4, Try.f54, SLM, simprocAttr]
   simp -implicitDefEqProofs (maxSteps := 2000000) (disch := first | assumption | (refine Shut.mk ?_; kernel_rfl) | omega | (simp only [GT]; done) | (simp only [LN] <;> omega) | fail) only [↓DN, ↓kAsg, ↓kRet, UP, simprocAttr, ↓xb7, ↓xb8, ↓x7k, LA, u_intss, c_ints, hc, hz1]
   simp only [szRows, szAt, hz, if_true, Int.natCast_zero, Int.add_zero]
   rfl
  ·have hz1 : szN left (rs.getD i.toNat []).length = left - (rs.getD i.toNat []).length := by unfold szN; rw [if_neg hz]
   have hz2 : ¬ left - ((rs.getD i.toNat []).length : Int) < 0 := by omega
   rw [xdv]
   simp only [xe4, Try.f54, SLM, simprocAttr]
   simp -implicitDefEqProofs (maxSteps := 2000000) (disch := first | assumption | (refine Shut.mk ?_; kernel_rfl) | omega | (simp only [GT]; done) | (simp only [LN] <;> omega) | fail) only [↓DN, ↓kAsg, ↓kRet, UP, simprocAttr, ↓xb7, ↓xb8, ↓x7k, LA, u_intss, c_ints, hc, hz1, hz2, ↓ih]
   simp only [szRows, szAt, hz, if_false, e1, Int.natCast_add, Int.add_assoc, Int.add_comm 1]
   rfl
theorem xqk {L n : Nat} (hn : 3 ≤ n) (rs : List (List Int)) (left : Int) (hs : rowsLen rs) (h0 : 0 ≤ left) (h1 : left ≤ 4294967296) (hL : 2 ^ 60 ≤ L) : evCall env L n 54 [.d (.ivs rs.length (rowsD rs)), .d (.int .i64 left)] [] = some (.d (.int .i64 (szSS rs left)), []) := by
 have hrl := hs.1
 unfold szSS
 by_cases h : left < rs.length
 ·have h2 : left - (rs.length : Int) < 0 := by omega
  obtain ⟨n, rfl⟩ : ∃ m, n = m + 1 := ⟨n - 1, by omega⟩
  rw [xkk]
  simp only [xix, Try.f54, SLM, simprocAttr]
  simp -implicitDefEqProofs (maxSteps := 2000000) (disch := first | assumption | (refine Shut.mk ?_; kernel_rfl) | omega | (simp only [GT]; done) | (simp only [LN] <;> omega) | fail) only [↓DN, ↓kAsg, ↓kRet, UP, simprocAttr, ↓xb7, ↓xb8, ↓x7k, ↓xhn, LA, h, h2]
 ·have h2 : ¬ left - (rs.length : Int) < 0 := by omega
  by_cases h3 : szRows rs (left - rs.length) < 0
  ·have h4 := szRows_neg _ _ h3 (by omega)
   obtain ⟨n, rfl⟩ : ∃ m, n = m + 1 := ⟨n - 1, by omega⟩
   rw [xkk]
   simp only [xix, Try.f54, SLM, simprocAttr]
   simp -implicitDefEqProofs (maxSteps := 2000000) (disch := first | assumption | (refine Shut.mk ?_; kernel_rfl) | omega | (simp only [GT]; done) | (simp only [LN] <;> omega) | fail) only [↓DN, ↓kAsg, ↓kRet, UP, simprocAttr, ↓xb7, ↓xb8, ↓x7k, ↓xhn, LA, h, h2, h3, h4, Int.toNat_zero, List.drop_zero]
  ·obtain ⟨n, rfl⟩ : ∃ m, n = m + 1 := ⟨n - 1, by omega⟩
   rw [xkk]
   simp only [xix, Try.f54, SLM, simprocAttr]
   simp -implicitDefEqProofs (maxSteps := 2000000) (disch := first | assumption | (refine Shut.mk ?_; kernel_rfl) | omega | (simp only [GT]; done) | (simp only [LN] <;> omega) | fail) only [↓DN, ↓kAsg, ↓kRet, UP, simprocAttr, ↓xb7, ↓xb8, ↓x7k, ↓xhn, LA, h, h2, h3, Int.toNat_zero, List.drop_zero]
theorem xkt {R : Type} {L n : Nat} {hq : H} {k : A → H → Option R} (hn : 3 ≤ n) (rs : List (List Int)) (left : Int) (hs : rowsLen rs) (h0 : 0 ≤ left) (h1 : left ≤ 4294967296) (hL : 2 ^ 60 ≤ L) : kCall env (evCall env L n) hq 54 [.d (.ivs rs.length (rowsD rs)), .d (.int .i64 left)] k = k (.d (.int .i64 (szSS rs left))) hq :=
 kCall_still rfl (xqk hn rs left hs h0 h1 hL) rfl (.inl rfl)
theorem xko {R : Type} {L n : Nat} {k : A → Option R} (hn : 3 ≤ n) (rs : List (List Int)) (left : Int) (hs : rowsLen rs) (h0 : 0 ≤ left) (h1 : left ≤ 4294967296) (hL : 2 ^ 60 ≤ L) : kLent (evCall env L n) 54 [.d (.ivs rs.length (rowsD rs)), .d (.int .i64 left)] k = k (.d (.int .i64 (szSS rs left))) :=
 kLent_ev (xqk hn rs left hs h0 h1 hL) rfl
theorem xhz {R : Type} {L n : Nat} {hq : H} {k : A → H → Option R} {id0 g0 o0 len0 : Nat} {left : Int} : kCall env (evCall env L n) hq 54 [.sl id0 g0 o0 len0, .d (.int .i64 left)] k = match box (lentA hq [.sl id0 g0 o0 len0, .d (.int .i64 left)]) with
  | .mk (some fs) => kLent (evCall env L n) 54 fs fun r => k r hq
  | _ => none := kCall_lent xgi
theorem xjk {L n : Nat} (hn : 4 ≤ n) (al : Int) (rs : List (List Int)) (ac : List Bool) (left : Int) (hs : rowsLen rs) (ha : ac.length ≤ 9223372036854775807) (h0 : 0 ≤ left) (h1 : left ≤ 4294967296) (hL : 2 ^ 60 ≤ L) : evCall env L n 16 [.agg [.d (.int .i64 al), .d (.ivs rs.length (rowsD rs)), .d (.ivs ac.length (bools ac))], .d (.int .i64 left)] [] = some (.d (.int .i64 (szA rs ac left)), []) := by
 unfold szA
 by_cases h : szSS rs left < 0
 ·obtain ⟨n, rfl⟩ : ∃ m, n = m + 1 := ⟨n - 1, by omega⟩
  rw [xdk]
  simp only [xam, Try.f16, SLM, simprocAttr]
  simp -implicitDefEqProofs (maxSteps := 2000000) (disch := first | assumption | (refine Shut.mk ?_; kernel_rfl) | omega | (simp only [GT]; done) | (simp only [LN] <;> omega) | fail) only [↓DN, ↓kAsg, ↓kRet, UP, simprocAttr, ↓xkt, ↓xkm, ↓xko, ↓xkn, ↓xhz, ↓xi0, LA, h]
 ·have h5 : szSS rs left ≤ left := by
   unfold szSS at h ⊢
   split
   ·omega
   ·have := szRows_le rs (left - rs.length) (by omega); omega
  have h6 : 0 ≤ szSS rs left := by omega
  have h7 : szSS rs left ≤ 4294967296 := by omega
  clear h5
  by_cases h2 : szN (szSS rs left) ac.length < 0
  ·have h3 : szN (szSS rs left) ac.length = -1 := by
    unfold szN at h2 ⊢
    split
    ·rfl
    ·rename_i hc; rw [if_neg hc] at h2; omega
   obtain ⟨n, rfl⟩ : ∃ m, n = m + 1 := ⟨n - 1, by omega⟩
   rw [xdk]
   simp only [xam, Try.f16, SLM, simprocAttr]
   simp -implicitDefEqProofs (maxSteps := 2000000) (disch := first | assumption | (refine Shut.mk ?_; kernel_rfl) | omega | (simp only [GT]; done) | (simp only [LN] <;> omega) | fail) only [↓DN, ↓kAsg, ↓kRet, UP, simprocAttr, ↓xkt, ↓xkm, ↓xko, ↓xkn, ↓xhz, ↓xi0, LA, h, h2, h3]
  ·obtain ⟨n, rfl⟩ : ∃ m, n = m + 1 := ⟨n - 1, by omega⟩
   rw [xdk]
   simp only [xam, Try.f16, SLM, simprocAttr]
   simp -implicitDefEqProofs (maxSteps := 2000000) (disch := first | assumption | (refine Shut.mk ?_; kernel_rfl) | omega | (simp only [GT]; done) | (simp only [LN] <;> omega) | fail) only [↓DN, ↓kAsg, ↓kRet, UP, simprocAttr, ↓xkt, ↓xkm, ↓xko, ↓xkn, ↓xhz, ↓xi0, LA, h, h2]
theorem xds {R : Type} {L n : Nat} {hq : H} {k : A → H → Option R} (hn : 4 ≤ n) (al : Int) (rs : List (List Int)) (ac : List Bool) (left : Int) (hs : rowsLen rs) (ha : ac.length ≤ 9223372036854775807) (h0 : 0 ≤ left) (h1 : left ≤ 4294967296) (hL : 2 ^ 60 ≤ L) : kCall env (evCall env L n) hq 16 [.agg [.d (.int .i64 al), .d (.ivs rs.length (rowsD rs)), .d (.ivs ac.length (bools ac))], .d (.int .i64 left)] k = k (.d (.int .i64 (szA rs ac left))) hq :=
 kCall_still rfl (xjk hn al rs ac left hs ha h0 h1 hL) rfl (.inl rfl)
theorem xe1 {R : Type} {L n : Nat} {k : A → Option R} (hn : 4 ≤ n) (al : Int) (rs : List (List Int)) (ac : List Bool) (left : Int) (hs : rowsLen rs) (ha : ac.length ≤ 9223372036854775807) (h0 : 0 ≤ left) (h1 : left ≤ 4294967296) (hL : 2 ^ 60 ≤ L) : kLent (evCall env L n) 16 [.agg [.d (.int .i64 al), .d (.ivs rs.length (rowsD rs)), .d (.ivs ac.length (bools ac))], .d (.int .i64 left)] k = k (.d (.int .i64 (szA rs ac left))) :=
 kLent_ev (xjk hn al rs ac left hs ha h0 h1 hL) rfl
theorem xas {R : Type} {L n : Nat} {hq : H} {k : A → H → Option R} {id0 g0 o0 len0 : Nat} {al : Int} {ac : List Bool} {left : Int} : kCall env (evCall env L n) hq 16 [.agg [.d (.int .i64 al), .sl id0 g0 o0 len0, .d (.ivs ac.length (bools ac))], .d (.int .i64 left)] k = match box (lentA hq [.agg [.d (.int .i64 al), .sl id0 g0 o0 len0, .d (.ivs ac.length (bools ac))], .d (.int .i64 left)]) with
  | .mk (some fs) => kLent (evCall env L n) 16 fs fun r => k r hq
  | _ => none := kCall_lent x5t
theorem xax {R : Type} {L n : Nat} {hq : H} {k : A → H → Option R} {id1 g1 o1 len1 : Nat} {al : Int} {rs : List (List Int)} {left : Int} : kCall env (evCall env L n) hq 16 [.agg [.d (.int .i64 al), .d (.ivs rs.length (rowsD rs)), .sl id1 g1 o1 len1], .d (.int .i64 left)] k = match box (lentA hq [.agg [.d (.int .i64 al), .d (.ivs rs.length (rowsD rs)), .sl id1 g1 o1 len1], .d (.int .i64 left)]) with
  | .mk (some fs) => kLent (evCall env L n) 16 fs fun r => k r hq
  | _ => none := kCall_lent x5t
theorem xb0 {R : Type} {L n : Nat} {hq : H} {k : A → H → Option R} {id1 g1 o1 len1 : Nat} {id0 g0 o0 len0 : Nat} {al : Int} {left : Int} : kCall env (evCall env L n) hq 16 [.agg [.d (.int .i64 al), .sl id0 g0 o0 len0, .sl id1 g1 o1 len1], .d (.int .i64 left)] k = match box (lentA hq [.agg [.d (.int .i64 al), .sl id0 g0 o0 len0, .sl id1 g1 o1 len1], .d (.int .i64 left)]) with
  | .mk (some fs) => kLent (evCall env L n) 16 fs fun r => k r hq
  | _ => none := kCall_lent x5t
theorem szA_small {rs : List (List Int)} {ac : List Bool} (h : ¬ szA rs ac 1048576 < 0) : rs.length ≤ 1048576 ∧ (∀ r ∈ rs, r.length ≤ 1048576) ∧ ac.length ≤ 1048576 := by
 unfold szA at h
 split at h
 ·omega
 ·rename_i h1
  unfold szSS at h h1
  split at h1
  ·omega
  ·rename_i h2
   rw [if_neg h2] at h
   have h3 := szRows_le rs (1048576 - rs.length) (by omega)
   unfold szN at h
   split at h
   ·omega
   ·refine ⟨by omega, fun r hr => ?_, by omega⟩
    have := szRows_all rs (1048576 - rs.length) (by omega) r hr
    omega
def marksB : Nat → Int → List Bool
 | 0, _ => []
 | j + 1, k => decide (k.tmod 3 = 0) :: marksB j (k + 1)
def marksR : List (List Int) → Int → List (List Int)
 | [], _ => []
 | r :: rs, k => marksI r.length k :: marksR rs (k + r.length)
def total : List (List Int) → Nat
 | [] => 0
 | r :: rs => r.length + total rs
theorem marksR_len : ∀ (rs : List (List Int)) (k : Int), (marksR rs k).length = rs.length
 | [], _ => rfl
 | r :: rs, k => by simp [marksR, marksR_len rs]
theorem marksR_lens : ∀ (rs : List (List Int)) (k : Int), (marksR rs k).map List.length = rs.map List.length
 | [], _ => rfl
 | r :: rs, k => by simp [marksR, marksR_lens rs, marksI_len]
end Ev
end Go.Proofs.Ytppdfjdfjfoddaa
end

/-!
  Marks on automata in memory: functions that write into what they are handed.
-/
section
set_option linter.unusedSimpArgs false
set_option linter.unusedVariables false
set_option maxRecDepth 8000
set_option pp.maxSteps 6000
set_option maxHeartbeats 4000000
namespace Go.Proofs.Ytppdfjdfjfoddaa
namespace Ev
theorem reach_sub {h : H} : ∀ (n : Nat) (todo acc : List Nat), (∀ i ∈ todo, i ∈ acc) → reach n h todo acc = acc
 | 0, _, _, _ => rfl
 | n + 1, [], _, _ => rfl
 | n + 1, i :: todo, acc, hs => by
  have hc : acc.contains i = true := by simpa using hs i (by simp)
  simp only [reach, hc, if_true]
  exact reach_sub n todo acc fun j hj => hs j (by simp [hj])
mutual
theorem calmA_low {nf : Nat} {h : H} : ∀ a : A, (∀ i ∈ idsA a, i < nf) → calmA nf h a = a
 | .d x, _ => by simp only [calmA]
 | .sl id gen off len, hi => by simp only [calmA, calmSl]; rw [if_pos (hi id (by simp [idsA]))]
 | .ptr id gen off, hi => by simp only [calmA, calmPt]; rw [if_pos (hi id (by simp [idsA]))]
 | .mp id, hi => by simp only [calmA]
 | .clo g caps, hi => by simp only [calmA]; rw [calmAs_low caps (by simpa only [idsA] using hi)]
 | .agg cs, hi => by simp only [calmA]; rw [calmAs_low cs (by simpa only [idsA] using hi)]
 | .tup cs, hi => by simp only [calmA]; rw [calmAs_low cs (by simpa only [idsA] using hi)]
 | .junk, _ => by simp only [calmA]
theorem calmAs_low {nf : Nat} {h : H} : ∀ xs : List A, (∀ i ∈ idsL xs, i < nf) → calmAs nf h xs = xs
 | [], _ => by simp only [calmAs]
 | a :: xs, hi => by
  simp only [idsL, List.mem_append] at hi
  simp only [calmAs]
  rw [calmA_low a fun i h => hi i (.inl h), calmAs_low xs fun i h => hi i (.inr h)]
end
theorem calmFrom_low {nf : Nat} {h : H} : ∀ (os : H) (i : Nat), i + os.length ≤ nf → (∀ o ∈ os, ∀ j ∈ kidsO o, j < nf) → calmFrom nf h i os = os
 | [], _, _, _ => by simp only [calmFrom]
 | o :: os, i, hl, hk => by
  simp only [List.length_cons] at hl
  simp only [calmFrom]
  rw [calmFrom_low os (i + 1) (by omega) fun o ho => hk o (by simp [ho])]
  congr 1
  have hko := hk o (by simp)
  cases o with
  | arr cs e g => simp only [calmO]; rw [if_pos (by omega)]
  | ice cs e g => simp only [calmO]; rw [if_pos (by omega)]
  | box cs => simp only [calmO]; rw [calmAs_low cs hko]
  | vec cs e g => simp only [calmO]; rw [calmAs_low cs hko, if_pos (by omega)]
  | mp es => simp only [calmO]
  | void => simp only [calmO]
theorem place_rng {n i : Nat} (h : i < n) : place (List.range n) i = some i := by
 rw [List.range_eq_range']
 have := place_range n 0 i h
 simpa using this
theorem mapO_low {f : Nat → Option Nat} {o : O} (h : ∀ i ∈ kidsO o, f i = some i) : mapO f o = o := by
 cases o with
 | box cs => simp only [mapO]; rw [mapAs_fix cs h]
 | vec cs e g => simp only [mapO]; rw [mapAs_fix cs h]
 | _ => rfl
theorem pack_rng {h h2 : H} (hk : ∀ o ∈ h, ∀ j ∈ kidsO o, j < h.length) : pack (h ++ h2) (List.range h.length) = h := by
 apply List.ext_getElem?
 intro i
 rw [pack_get]
 by_cases hi : i < h.length
 ·rw [List.getElem?_range hi]
  simp only [Option.map_some, List.getD_eq_getElem?_getD, List.getElem?_append_left hi, List.getElem?_eq_getElem hi, Option.getD_some]
  rw [mapO_low fun j hj => place_rng (hk _ (List.getElem_mem hi) j hj)]
 ·rw [List.getElem?_eq_none (by simpa using hi), List.getElem?_eq_none (by omega)]
  rfl
theorem boxIds_mem : ∀ {h : H} {i : Nat}, i ∈ boxIds h → ∃ o ∈ h, i ∈ kidsO o
 | [], i, hi => by simp [boxIds] at hi
 | o :: h, i, hi => by
  cases o with
  | box cs =>
   simp only [boxIds, List.mem_append] at hi
   rcases hi with hi | hi
   ·exact ⟨.box cs, by simp, hi⟩
   ·obtain ⟨o, ho, hk⟩ := boxIds_mem hi; exact ⟨o, by simp [ho], hk⟩
  | vec cs e g =>
   simp only [boxIds, List.mem_append] at hi
   rcases hi with hi | hi
   ·exact ⟨.vec cs e g, by simp, hi⟩
   ·obtain ⟨o, ho, hk⟩ := boxIds_mem hi; exact ⟨o, by simp [ho], hk⟩
  | _ =>
   simp only [boxIds] at hi
   obtain ⟨o, ho, hk⟩ := boxIds_mem hi
   exact ⟨o, by simp [ho], hk⟩
section
variable {h h2 : H} {nf : Nat} (hn : nf = h.length) (hk : ∀ o ∈ h, ∀ j ∈ kidsO o, j < nf)
include hn hk
theorem keep_all2 {ids : List Nat} (hi : ∀ i ∈ ids, i < nf) : keepOrd nf (h ++ h2) ids = List.range nf := by
 unfold keepOrd
 subst hn
 rw [List.take_left]
 apply reach_sub
 intro i hm
 rw [List.mem_range]
 rcases List.mem_append.1 hm with h1 | h1
 ·obtain ⟨o, ho, hj⟩ := boxIds_mem h1
  exact hk o ho i hj
 ·exact hi i h1
theorem trim_all2 {s : List A} (hi : ∀ i ∈ idsL s, i < nf) : trim nf (h ++ h2) (List.range nf) s = (s, h) := by
 unfold trim
 subst hn
 rw [pack_rng hk, mapAs_fix s fun i h1 => place_rng (hi i h1), calmAs_low s hi]
 unfold calmH
 rw [calmFrom_low h 0 (by omega) hk]
theorem keep_all {ids : List Nat} (hi : ∀ i ∈ ids, i < nf) : keepOrd nf h ids = List.range nf := by
 have := keep_all2 (h2 := []) hn hk hi
 rwa [List.append_nil] at this
theorem trim_all {s : List A} (hi : ∀ i ∈ idsL s, i < nf) : trim nf h (List.range nf) s = (s, h) := by
 have := trim_all2 (h2 := []) hn hk hi
 rwa [List.append_nil] at this
theorem gc_all {m : List Bool} {s : List A} (hi : ∀ i ∈ idsL (tidy m s), i < nf) : gc nf m s h = (tidy m s, h) := by
 unfold gc
 rw [keep_all hn hk hi, trim_all hn hk hi]
end
theorem kids_rows {d : List (List Int)} : ∀ o ∈ rowsO d, kidsO o = [] := by
 intro o ho
 simp only [rowsO, List.mem_map] at ho
 obtain ⟨r, _, rfl⟩ := ho
 rfl
theorem kids_vr {b : Nat} {rs d : List (List Int)} {nf : Nat} (hb : b + rs.length ≤ nf) : ∀ o ∈ (O.vec (refsV b rs ++ nilsA 0) 1 0 :: rowsO d), ∀ j ∈ kidsO o, j < nf := by
 intro o ho j hj
 rcases List.mem_cons.1 ho with h1 | h1
 ·subst h1
  simp only [kidsO, idsL_app, refsV_ids, idsL_nils, List.append_nil, List.mem_range'_1] at hj
  omega
 ·rw [kids_rows o h1] at hj; cases hj
theorem kids_va {b : Nat} {rs d : List (List Int)} {cs : List D} {nf : Nat} (hb : b + rs.length ≤ nf) : ∀ o ∈ (O.vec (refsV b rs ++ nilsA 0) 1 0 :: .arr cs 1 0 :: rowsO d), ∀ j ∈ kidsO o, j < nf := by
 intro o ho j hj
 rcases List.mem_cons.1 ho with h1 | h1
 ·subst h1
  simp only [kidsO, idsL_app, refsV_ids, idsL_nils, List.append_nil, List.mem_range'_1] at hj
  omega
 ·rcases List.mem_cons.1 h1 with h2 | h2
  ·subst h2; cases hj
  ·rw [kids_rows o h2] at hj; cases hj
theorem gc_vr {rs d : List (List Int)} {nf : Nat} {m : List Bool} {s : List A} (hl : d.length = rs.length) (hn : nf = rs.length + 1) : gc nf m s (.vec (refsV 1 rs ++ nilsA 0) 1 0 :: rowsO d) = match box (tidy m s) with
  | .mk s1 => if idsL s1 = [0] then (s1, .vec (refsV 1 rs ++ nilsA 0) 1 0 :: rowsO d) else gcO nf m s (.vec (refsV 1 rs ++ nilsA 0) 1 0 :: rowsO d)
  | .no => ([], []) := by
 simp only [box]
 split
 ·rename_i hc
  exact gc_all (by simp [rowsO_len, hl, hn]) (kids_vr (by omega)) (by rw [hc]; intro i hi; simp at hi; omega)
 ·rfl
theorem gc_vr0 {rs : List (List Int)} {m : List Bool} {s : List A} : gc (O.vec (refsV 1 rs ++ nilsA 0) 1 0 :: rowsO rs).length m s (.vec (refsV 1 rs ++ nilsA 0) 1 0 :: rowsO rs) = match box (tidy m s) with
  | .mk s1 => if idsL s1 = [0] then (s1, .vec (refsV 1 rs ++ nilsA 0) 1 0 :: rowsO rs) else gcO (O.vec (refsV 1 rs ++ nilsA 0) 1 0 :: rowsO rs).length m s (.vec (refsV 1 rs ++ nilsA 0) 1 0 :: rowsO rs)
  | .no => ([], []) := gc_vr rfl (by simp [rowsO_len])
theorem keep_vr {rs d : List (List Int)} {nf : Nat} {ids : List Nat} (hl : d.length = rs.length) (hn : nf = rs.length + 1) : keepOrd nf (.vec (refsV 1 rs ++ nilsA 0) 1 0 :: rowsO d) ids = if ids = [] then List.range nf else keepO nf (.vec (refsV 1 rs ++ nilsA 0) 1 0 :: rowsO d) ids := by
 split
 ·rename_i h; subst h
  exact keep_all (by simp [rowsO_len, hl, hn]) (kids_vr (by omega)) (by simp)
 ·rfl
theorem trim_vr {rs d : List (List Int)} {nf n2 : Nat} {s : List A} (hl : d.length = rs.length) (hn : nf = rs.length + 1) (hn2 : n2 = rs.length + 1) : trim nf (.vec (refsV 1 rs ++ nilsA 0) 1 0 :: rowsO d) (List.range n2) s = if idsL s = [] then (s, .vec (refsV 1 rs ++ nilsA 0) 1 0 :: rowsO d) else trimO nf (.vec (refsV 1 rs ++ nilsA 0) 1 0 :: rowsO d) (List.range n2) s := by
 obtain rfl : n2 = nf := by omega
 split
 ·rename_i h
  exact trim_all (by simp [rowsO_len, hl, hn]) (kids_vr (by omega)) (by simp [h])
 ·rfl
theorem keep_va {rs d : List (List Int)} {cs : List D} {p : H} {nf : Nat} {ids : List Nat} (hl : d.length = rs.length) (hn : nf = rs.length + 2) : keepOrd nf (.vec (refsV 2 rs ++ nilsA 0) 1 0 :: .arr cs 1 0 :: (rowsO d ++ p)) ids = if ids = [] then List.range nf else keepO nf (.vec (refsV 2 rs ++ nilsA 0) 1 0 :: .arr cs 1 0 :: (rowsO d ++ p)) ids := by
 split
 ·rename_i h; subst h
  exact keep_all2 (h := .vec (refsV 2 rs ++ nilsA 0) 1 0 :: .arr cs 1 0 :: rowsO d) (h2 := p) (by simp [rowsO_len, hl, hn]) (kids_va (by omega)) (by simp)
 ·rfl
theorem trim_va {rs d : List (List Int)} {cs : List D} {p : H} {nf n2 : Nat} {s : List A} (hl : d.length = rs.length) (hn : nf = rs.length + 2) (hn2 : n2 = rs.length + 2) : trim nf (.vec (refsV 2 rs ++ nilsA 0) 1 0 :: .arr cs 1 0 :: (rowsO d ++ p)) (List.range n2) s = if idsL s = [] then (s, .vec (refsV 2 rs ++ nilsA 0) 1 0 :: .arr cs 1 0 :: rowsO d) else trimO nf (.vec (refsV 2 rs ++ nilsA 0) 1 0 :: .arr cs 1 0 :: (rowsO d ++ p)) (List.range n2) s := by
 obtain rfl : n2 = nf := by omega
 split
 ·rename_i h
  exact trim_all2 (h := .vec (refsV 2 rs ++ nilsA 0) 1 0 :: .arr cs 1 0 :: rowsO d) (h2 := p) (by simp [rowsO_len, hl, hn]) (kids_va (by omega)) (by simp [h])
 ·rfl
theorem rows_end {d : List (List Int)} {o : O} {p : H} {k : Nat} (h : k = d.length) : (rowsO d ++ o :: p)[k]? = some o := by
 rw [List.getElem?_append_right (by rw [rowsO_len]; omega), rowsO_len, h, Nat.sub_self]
 rfl
theorem refs_head {b k : Nat} : ∀ {rs : List (List Int)} {b k : Nat}, k < rs.length → ((refsV b rs ++ nilsA 0).drop k).head? = some (.sl (b + k) 0 0 (rs.getD k []).length)
 | [], b, k, h => by simp at h
 | r :: rs, b, 0, h => by simp [refsV]
 | r :: rs, b, k + 1, h => by
  simp only [refsV, List.cons_append, List.drop_succ_cons]
  rw [refs_head (b := b) (k := k) (by simpa using h)]
  simp only [List.getD_cons_succ]
  congr 2
  omega
theorem refs_head1 {rs : List (List Int)} {k : Nat} (h : k < rs.length) : ((refsV 1 rs ++ nilsA 0).drop k).head? = some (.sl (k + 1) 0 0 (rs.getD k []).length) := by
 rw [refs_head (b := 0) (k := 0) h, Nat.add_comm]
theorem rowsO_at {d : List (List Int)} {k : Nat} (h : k < d.length) : (rowsO d)[k]? = some (.arr (ints (d.getD k [])) 1 0) := by
 rw [List.getD_eq_getElem?_getD, List.getElem?_eq_getElem h]
 exact rowsO_get (List.getElem?_eq_getElem h)
theorem rowsO_set {d : List (List Int)} {k : Nat} {r : List Int} : (rowsO d).set k (.arr (ints r) 1 0) = rowsO (d.set k r) := by
 unfold rowsO
 rw [List.map_set]
 rfl
theorem xkf {R : Type} {L n nf : Nat} (hn : 2 ≤ n) (hL : 2 ^ 60 ≤ L) {rs : List (List Int)} (hs : rowsShort rs) (hnf : nf = rs.length + 1) {k : Exit → List A → H → Option R} : ∀ (i c : Int) (m : Nat) (d : List (List Int)) (len : Nat) (h0 : 0 ≤ i) (hi : i ≤ rs.length) (hm : (rs.length : Int) - i < m) (hd : d.length = rs.length) (hd2 : d.drop i.toNat = rs.drop i.toNat) (hlen : len = rs.length) (hc0 : 0 ≤ c) (hc1 : c + total (rs.drop i.toNat) ≤ 100000000000),
  kLoop env (evCall env L n) L (nf) [] (U2 (Z2 (U2 (Z8 (Z4 (Z1 ([]))))))) (x6j 0) (Z2 (U2 (Z2 (U8 (U4 (U1 ([]))))))) m (.sl 0 0 0 len :: .d (.int .i64 c) :: Y2 (.d (.int .i64 0) :: .d (.int .i64 i) :: Y8 (Y4 (Y1 ([]))))) (.vec (refsV 1 rs ++ nilsA 0) 1 0 :: rowsO d) k
  = k (.exit 0) (.sl 0 0 0 rs.length :: .d (.int .i64 ((c + total (rs.drop i.toNat)))) :: Y2 (.d (.int .i64 0) :: .d (.int .i64 (rs.length)) :: Y8 (Y4 (Y1 ([]))))) (.vec (refsV 1 rs ++ nilsA 0) 1 0 :: rowsO (d.take i.toNat ++ marksR (rs.drop i.toNat) c)) := by
 intro i c m d len h0 hi hm hd hd2 hlen hc0 hc1
 have hrl := hs.1
 obtain ⟨j, hj⟩ : ∃ j : Nat, (j : Int) = (rs.length : Int) - i := ⟨((rs.length : Int) - i).toNat, by omega⟩
 induction j generalizing i c m d len with
 | zero =>
  obtain ⟨m, rfl⟩ : ∃ q, m = q + 1 := ⟨m - 1, by omega⟩
  obtain rfl : i = rs.length := by omega
  have e1 : d.take rs.length = d := List.take_of_length_le (by omega)
  rw [xgt]
  simp only [xff, Try.f64, SLM, simprocAttr]
  simp -implicitDefEqProofs (maxSteps := 2000000) (disch := first | assumption | (refine Shut.mk ?_; kernel_rfl) | omega | (simp only [GT]; done) | (simp only [LN] <;> omega) | fail) only [↓DN, ↓kAsg, ↓kRet, UP, simprocAttr, ↓xja, LA, Int.lt_irrefl, ↓gc_vr, hlen]
  simp only [Int.toNat_natCast, List.drop_length, marksR, List.append_nil, e1, total, Int.natCast_zero, Int.add_zero]
 | succ j ih =>
  obtain ⟨m, rfl⟩ : ∃ q, m = q + 1 := ⟨m - 1, by omega⟩
  subst hlen
  have hc : i < rs.length := by omega
  have hk : i.toNat < rs.length := by omega
  have hkd : i.toNat < d.length := by omega
  have hrow := short_at hs hk
  have e1 : (i + 1).toNat = i.toNat + 1 := by omega
  have e2 := drop_go hk (d := ([] : List Int))
  have e3 := drop_go hkd (d := ([] : List Int))
  rw [e2, e3, List.cons.injEq] at hd2
  rw [e2, total] at hc1
  have hg : (O.vec (refsV 1 rs ++ nilsA 0) 1 0 :: rowsO d)[i.toNat + 1]? = some (.arr (ints (rs.getD i.toNat [])) 1 0) := by rw [List.getElem?_cons_succ, rowsO_at hkd, hd2.1]
  have hset : (d.set i.toNat (marksI (rs.getD i.toNat []).length c)).length = rs.length := by simp [hd]
  have hset2 : (d.set i.toNat (marksI (rs.getD i.toNat []).length c)).drop (i + 1).toNat = rs.drop (i + 1).toNat := by
   rw [e1, ← hd2.2, List.drop_set_of_lt (by omega)]
  have hq0 : 0 ≤ c + ((rs.getD i.toNat []).length : Int) := by omega
  have hq1 : c + ((rs.getD i.toNat []).length : Int) + total (rs.drop (i + 1).toNat) ≤ 100000000000 := by rw [e1]; omega
  have hq2 : c ≤ 100000000000 := by omega
  rw [xgt]
  simp only [xff, Try.f64, SLM, simprocAttr]
  simp -implicitDefEqProofs (maxSteps := 2000000) (disch := first | assumption | (refine Shut.mk ?_; kernel_rfl) | omega | (simp only [GT]; done) | (simp only [LN] <;> omega) | fail) only [↓DN, ↓kAsg, ↓kRet, UP, simprocAttr, ↓xja, LA, u_intss, c_ints, hc, refs_head1, rowsO_set, ↓gc_vr, ↓ih, List.getElem?_cons_succ, List.set_cons_succ]
  rw [e1, e2, set_go1 hkd]
  simp only [marksR, total, Int.natCast_add, Int.add_assoc]
theorem xmw {R : Type} {L n nf m : Nat} (hn : 2 ≤ n) (hL : 2 ^ 60 ≤ L) {rs : List (List Int)} (hs : rowsShort rs) (hnf : nf = rs.length + 1) {k : Exit → List A → H → Option R} (c : Int) (hm : rs.length < m) (hc0 : 0 ≤ c) (hc1 : c + total rs ≤ 100000000000) :
  kLoop env (evCall env L n) L (nf) [] (U2 (Z2 (U2 (Z8 (Z4 (Z1 ([]))))))) (x6j 0) (Z2 (U2 (Z2 (U8 (U4 (U1 ([]))))))) m (.sl 0 0 0 rs.length :: .d (.int .i64 c) :: Y2 (.d (.int .i64 0) :: .d (.int .i64 0) :: Y8 (Y4 (Y1 ([]))))) (.vec (refsV 1 rs ++ nilsA 0) 1 0 :: rowsO rs) k
  = k (.exit 0) (.sl 0 0 0 rs.length :: .d (.int .i64 ((c + total rs))) :: Y2 (.d (.int .i64 0) :: .d (.int .i64 (rs.length)) :: Y8 (Y4 (Y1 ([]))))) (.vec (refsV 1 rs ++ nilsA 0) 1 0 :: rowsO (marksR rs c)) := by
 have h := xkf (R := R) (L := L) (n := n) hn hL hs hnf (k := k) 0 c m rs rs.length (by omega) (by omega) (by omega) rfl rfl rfl hc0 (by simpa using hc1)
 simpa using h
theorem xtp {L n : Nat} (hn : 3 ≤ n) (rs : List (List Int)) (c : Int) (hs : rowsShort rs) (hc0 : 0 ≤ c) (hc1 : c + total rs ≤ 100000000000) (hL : 2 ^ 60 ≤ L) : evCall env L n 64 [.sl 0 0 0 rs.length, .d (.int .i64 c)] (.vec (refsV 1 rs ++ nilsA 0) 1 0 :: rowsO rs) = some (.d (.int .i64 (c + total rs)), .vec (refsV 1 rs ++ nilsA 0) 1 0 :: rowsO (marksR rs c)) := by
 have hrl := hs.1
 have hml := marksR_len rs c
 have hro := rowsO_len rs
 obtain ⟨n, rfl⟩ : ∃ m, n = m + 1 := ⟨n - 1, by omega⟩
 rw [xth]
 simp only [xoi, Try.f64, SLM, simprocAttr]
 simp -implicitDefEqProofs (maxSteps := 2000000) (disch := first | assumption | (refine Shut.mk ?_; kernel_rfl) | omega | (simp only [GT]; done) | (simp only [LN] <;> omega) | fail) only [↓DN, ↓kAsg, ↓kRet, UP, simprocAttr, ↓xja, ↓xkf, LA, rowsO_len, ↓gc_vr, ↓gc_vr0, ↓xmw, ↓keep_vr, ↓trim_vr, hml]
theorem xrl {R : Type} {L n : Nat} {k : Exit → List A → H → Option R} : ∀ (i c : Int) (m : Nat) (o : List Bool) (len : Nat) (h0 : 0 ≤ i) (hi : i ≤ len) (hm : (len : Int) - i < m) (ho : o.length = len) (hl : len ≤ 4294967296) (hc0 : 0 ≤ c) (hc1 : c + ((len : Int) - i) ≤ 1000000000000),
  kLoop env (evCall env L n) L 1 [] (U2 (Z2 (U2 (Z8 (Z4 (Z2 (Z1 ([])))))))) (x7y 0) (Z2 (U2 (Z2 (U8 (U4 (U2 (U1 ([])))))))) m (.sl 0 0 0 len :: .d (.int .i64 c) :: Y2 (.d (.int .i64 0) :: .d (.int .i64 i) :: Y8 (Y4 (Y2 (Y1 ([])))))) [.arr (bools o) 1 0] k
  = k (.exit 0) (.sl 0 0 0 len :: .d (.int .i64 ((c + ((len : Int) - i)))) :: Y2 (.d (.int .i64 0) :: .d (.int .i64 len) :: Y8 (Y4 (Y2 (Y1 ([])))))) [.arr (bools (o.take i.toNat ++ marksB ((len : Int) - i).toNat c)) 1 0] := by
 intro i c m o len h0 hi hm ho hl hc0 hc1
 obtain ⟨j, hj⟩ : ∃ j : Nat, (j : Int) = (len : Int) - i := ⟨((len : Int) - i).toNat, by omega⟩
 induction j generalizing i c m o len with
 | zero =>
  obtain ⟨m, rfl⟩ : ∃ q, m = q + 1 := ⟨m - 1, by omega⟩
  obtain rfl : i = len := by omega
  rw [xhh]
  simp only [xf8, Try.f65, SLM, simprocAttr]
  simp -implicitDefEqProofs (maxSteps := 2000000) (disch := first | assumption | (refine Shut.mk ?_; kernel_rfl) | omega | (simp only [GT]; done) | (simp only [LN] <;> omega) | fail) only [↓DN, ↓kAsg, ↓kRet, UP, simprocAttr, LA, Int.lt_irrefl]
  have e1 : o.take len = o := List.take_of_length_le (by omega)
  have e2 : ((len : Int) - len).toNat = 0 := by omega
  simp only [Int.toNat_natCast, e1, e2, marksB, List.append_nil]
  congr 3
  simp
 | succ j ih =>
  obtain ⟨m, rfl⟩ : ∃ q, m = q + 1 := ⟨m - 1, by omega⟩
  have hc : i < len := by omega
  have hk : i.toNat < o.length := by omega
  have e1 : (i + 1).toNat = i.toNat + 1 := by omega
  have e2 : ((len : Int) - i).toNat = j + 1 := by omega
  have e3 : ((len : Int) - (i + 1)).toNat = j := by omega
  rw [xhh]
  simp only [xf8, Try.f65, SLM, simprocAttr]
  simp -implicitDefEqProofs (maxSteps := 2000000) (disch := first | assumption | (refine Shut.mk ?_; kernel_rfl) | omega | (simp only [GT]; done) | (simp only [LN] <;> omega) | fail) only [↓DN, ↓kAsg, ↓kRet, UP, simprocAttr, LA, hc, u_bools, c_bool, ↓xtt, ↓ih]
  have e4 : c + 1 + ((len : Int) - (i + 1)) = c + ((len : Int) - i) := by omega
  rw [e1, e2, e3, set_go1 hk, e4]
  simp only [marksB]
theorem xub {L n : Nat} (hn : 1 ≤ n) (o : List Bool) (c : Int) (hl : o.length ≤ 4294967296) (hc0 : 0 ≤ c) (hc1 : c ≤ 100000000000) (hL : 2 ^ 60 ≤ L) : evCall env L n 65 [.sl 0 0 0 o.length, .d (.int .i64 c)] [.arr (bools o) 1 0] = some (.d (.int .i64 (c + o.length)), [.arr (bools (marksB o.length c)) 1 0]) := by
 obtain ⟨n, rfl⟩ : ∃ m, n = m + 1 := ⟨n - 1, by omega⟩
 rw [xug]
 simp only [xnz, Try.f65, SLM, simprocAttr]
 simp -implicitDefEqProofs (maxSteps := 2000000) (disch := first | assumption | (refine Shut.mk ?_; kernel_rfl) | omega | (simp only [GT]; done) | (simp only [LN] <;> omega) | fail) only [↓DN, ↓kAsg, ↓kRet, UP, simprocAttr, ↓xrl, LA, Int.toNat_zero, Int.sub_zero, Int.toNat_natCast, List.take_zero, List.nil_append]
theorem xuh {R : Type} {L n id : Nat} {hq : H} {k : A → H → Option R} (hn : 1 ≤ n) (o : List Bool) (c : Int) (hi : hq[id]? = some (.arr (bools o) 1 0)) (hl : o.length ≤ 4294967296) (hc0 : 0 ≤ c) (hc1 : c ≤ 100000000000) (hL : 2 ^ 60 ≤ L) : kCall env (evCall env L n) hq 65 [.sl id 0 0 o.length, .d (.int .i64 c)] k = k (.d (.int .i64 (c + o.length))) (hq.set id (.arr (bools (marksB o.length c)) 1 0)) :=
 kCall_ref hi (by simp [idsL, idsA]) xdq rfl (by simpa [mapAs, mapA, place] using xub hn o c hl hc0 hc1 hL)
theorem xti {R : Type} {L n : Nat} {k : A → H → Option R} {p : H} (hn : 3 ≤ n) (rs : List (List Int)) (cs : List D) (c : Int) (hs : rowsShort rs) (hc0 : 0 ≤ c) (hc1 : c + total rs ≤ 100000000000) (hL : 2 ^ 60 ≤ L) : kCall env (evCall env L n) (.vec (refsV 2 rs ++ nilsA 0) 1 0 :: .arr cs 1 0 :: (rowsO rs ++ p)) 64 [.sl 0 0 0 rs.length, .d (.int .i64 c)] k = k (.d (.int .i64 (c + total rs))) (.vec (refsV 2 rs ++ nilsA 0) 1 0 :: .arr cs 1 0 :: (rowsO (marksR rs c) ++ p)) := by
 have hml := marksR_len rs c
 have hrl := hs.1
 have hids : idsL [A.sl 0 0 0 rs.length, .d (.int .i64 c)] = [0] := by simp [idsL, idsA]
 have hk0 : kids (.vec (refsV 2 rs ++ nilsA 0) 1 0 :: .arr cs 1 0 :: (rowsO rs ++ p)) 0 = List.range' 2 rs.length := by
  simp only [kids, List.getElem?_cons_zero, idsL_app, refsV_ids, idsL_nils, List.append_nil]
 have hleaf : ∀ i ∈ List.range' 2 rs.length, ∃ r : List Int, (O.vec (refsV 2 rs ++ nilsA 0) 1 0 :: .arr cs 1 0 :: (rowsO rs ++ p))[i]? = some (.arr (ints r) 1 0) := by
  intro i hi
  simp only [List.mem_range'_1] at hi
  obtain ⟨j, rfl⟩ : ∃ j, i = j + 2 := ⟨i - 2, by omega⟩
  have hj : j < rs.length := by omega
  exact ⟨rs[j], by rw [List.getElem?_cons_succ, List.getElem?_cons_succ, List.getElem?_append_left (by rw [rowsO_len]; exact hj)]; exact rowsO_get (List.getElem?_eq_getElem hj)⟩
 have hr : reach fuelR (.vec (refsV 2 rs ++ nilsA 0) 1 0 :: .arr cs 1 0 :: (rowsO rs ++ p)) [0] [] = [0] ++ List.range' 2 rs.length := by
  refine reach_bfs (P := [0]) (T := List.range' 2 rs.length) ?_ ?_ ?_ ?_ ?_ ?_
  ·simp [hk0]
  ·intro i hi
   obtain ⟨r, hr⟩ := hleaf i hi
   simp only [kids, hr]
  ·intro k hk; simp at hk; subst hk; simp
  ·simp only [List.cons_append, List.nil_append, List.nodup_cons]
   exact ⟨by simp, List.nodup_range'⟩
  ·intro i hi
   simp only [List.cons_append, List.nil_append, List.mem_cons] at hi
   rcases hi with rfl | hi
   ·exact ⟨_, rfl, by simp⟩
   ·obtain ⟨r, hr⟩ := hleaf i hi
    exact ⟨_, hr, by simp⟩
  ·simp only [List.length_append, List.length_cons, List.length_nil, List.length_range', fuelR]; omega
 have hpl : ∀ i, i < rs.length → place ([0] ++ List.range' 2 rs.length) (2 + i) = some (1 + i) := by
  intro i hi
  rw [place_app (by simp), place_range _ _ _ hi]
  simp
 have hp : pack (.vec (refsV 2 rs ++ nilsA 0) 1 0 :: .arr cs 1 0 :: (rowsO rs ++ p)) ([0] ++ List.range' 2 rs.length) = .vec (refsV 1 rs ++ nilsA 0) 1 0 :: rowsO rs := by
  simp only [pack, List.map_append, List.map_cons, List.map_nil, List.cons_append, List.nil_append, List.getD_cons_zero]
  have e1 := map_vec (rs := rs) (f := place ([0] ++ List.range' 2 rs.length)) (b := 2) (d := 1) hpl
  simp only [List.cons_append, List.nil_append] at e1
  rw [e1]
  congr 1
  exact pack_rows fun i r hr => by
   rw [show 2 + i = i + 2 by omega, List.getElem?_cons_succ, List.getElem?_cons_succ, List.getElem?_append_left (by rw [rowsO_len]; exact lt_of_get hr)]; exact rowsO_get hr
 have hcl : closed (.vec (refsV 2 rs ++ nilsA 0) 1 0 :: .arr cs 1 0 :: (rowsO rs ++ p)) ([0] ++ List.range' 2 rs.length) [0] = true := by
  simp only [closed, Bool.and_eq_true, List.all_eq_true, List.contains_eq_mem, decide_eq_true_eq]
  refine ⟨by simp, fun i hi => ?_⟩
  simp only [List.cons_append, List.nil_append, List.mem_cons] at hi
  rcases hi with rfl | hi
  ·simp only [List.getElem?_cons_zero, List.all_eq_true, decide_eq_true_eq, idsL_app, refsV_ids, idsL_nils, List.append_nil]
   intro j hj; simpa using Or.inr (by simpa using hj)
  ·obtain ⟨r, hr⟩ := hleaf i hi
   simp only [hr]
 have hmap : mapAs (place ([0] ++ List.range' 2 rs.length)) [A.sl 0 0 0 rs.length, .d (.int .i64 c)] = [A.sl 0 0 0 rs.length, .d (.int .i64 c)] := rfl
 have hnd : ([0] ++ List.range' 2 rs.length).Nodup := by
  simp only [List.cons_append, List.nil_append, List.nodup_cons]
  exact ⟨by simp, List.nodup_range'⟩
 have hlt : ∀ i ∈ [0] ++ List.range' 2 rs.length, i < (O.vec (refsV 2 rs ++ nilsA 0) 1 0 :: .arr cs 1 0 :: (rowsO rs ++ p)).length := by
  rw [← hr]; exact reach_lt fuelR _ _ [] (by simp)
 have hlen : (O.vec (refsV 1 rs ++ nilsA 0) 1 0 :: rowsO (marksR rs c)).length = ([0] ++ List.range' 2 rs.length).length := by
  simp [rowsO_len, hml]
 unfold kCall
 rw [hids, hr, hp, hmap]
 unfold aCall
 rw [xe2]
 simp only [xtp hn rs c hs hc0 hc1 hL, hcl, hlen, Nat.le_refl, and_self, if_true, mapA]
 congr 1
 apply List.ext_getElem?
 intro i
 rw [putBack_get _ _ _ _ _ hnd hlt (by omega)]
 have hbk : ∀ j, j < rs.length + 1 → back ([0] ++ List.range' 2 rs.length) (O.vec (refsV 2 rs ++ nilsA 0) 1 0 :: .arr cs 1 0 :: (rowsO rs ++ p)).length ([0] ++ List.range' 2 rs.length).length j = ([0] ++ List.range' 2 rs.length)[j]? := by
  intro j hj
  unfold back
  rw [if_pos (by simp; omega)]
 match i with
 | 0 =>
  simp only [List.cons_append, List.nil_append, place, if_true, List.getElem?_cons_zero, Option.map_some]
  rw [map_vec (d := 2) fun i hi => by
   have := hbk (1 + i) (by omega)
   simp only [List.cons_append, List.nil_append] at this
   rw [this, Nat.add_comm 1, List.getElem?_cons_succ, List.getElem?_range' hi]
   simp]
 | 1 =>
  have : place ([0] ++ List.range' 2 rs.length) 1 = none := place_none (by simp)
  rw [this]
  simp
 | i + 2 =>
  simp only [List.getElem?_cons_succ]
  by_cases hi : i < rs.length
  ·have := hpl i hi
   rw [show 2 + i = i + 2 by omega, show 1 + i = i + 1 by omega] at this
   rw [this]
   simp only [List.getElem?_cons_succ]
   rw [List.getElem?_append_left (by rw [rowsO_len]; omega), rowsO_at (by omega)]
   rfl
  ·have : place ([0] ++ List.range' 2 rs.length) (i + 2) = none := place_none (by simp; omega)
   rw [this]
   simp only [List.length_cons, List.length_append, rowsO_len, List.getElem?_cons_succ]
   rw [List.getElem?_append_right (by rw [rowsO_len]; omega), List.getElem?_append_right (by rw [rowsO_len]; omega), rowsO_len, rowsO_len, hml]
   split
   ·rfl
   ·rw [List.getElem?_eq_none (by simp [rowsO_len, hml]; omega), List.getElem?_eq_none (by omega)]
    rfl
theorem xpr {L n : Nat} (hn : 4 ≤ n) (al : Int) (rs : List (List Int)) (ac : List Bool) (c : Int) (hs : rowsShort rs) (ha : ac.length ≤ 4294967296) (hc0 : 0 ≤ c) (hc1 : c + total rs ≤ 100000000000) (hL : 2 ^ 60 ≤ L) : evCall env L n 22 [autA 0 al rs.length ac.length, .d (.int .i64 c)] (autO 0 rs ac) = some (.d (.int .i64 (c + total rs + ac.length)), autO 0 (marksR rs c) (marksB ac.length (c + total rs))) := by
 have hml := marksR_len rs c
 have hrf : refsV 2 (marksR rs c) = refsV 2 rs := refsV_lens (marksR_lens rs c)
 have h1 : 0 ≤ c + (total rs : Int) := by omega
 have hro := rowsO_len rs
 unfold autO autA
 rw [hrf]
 have en1 : ∀ {o : O} {p : H}, (rowsO rs ++ o :: p)[rs.length]? = some o := rows_end rfl
 have en2 : ∀ {o : O} {p : H}, (rowsO (marksR rs c) ++ o :: p)[rs.length]? = some o := rows_end hml.symm
 obtain ⟨n, rfl⟩ : ∃ m, n = m + 1 := ⟨n - 1, by omega⟩
 rw [xpm]
 simp only [xi6, Try.f22, SLM, simprocAttr]
 simp -implicitDefEqProofs (maxSteps := 2000000) (disch := first | assumption | (refine Shut.mk ?_; kernel_rfl) | omega | (simp only [GT]; done) | (simp only [LN] <;> omega) | fail) only [↓DN, ↓kAsg, ↓kRet, UP, simprocAttr, ↓xti, ↓xuh, LA, rowsO_len, ↓keep_va, ↓trim_va, hml, en1, en2]
theorem mark_aut {L n : Nat} (hn : 4 ≤ n) {h : H} {v : Nat} {al : Int} {rs : List (List Int)} {ac : List Bool} (k0 : Has h v rs ac) {c : Int} (hs : rowsShort rs) (ha : ac.length ≤ 4294967296) (hc0 : 0 ≤ c) (hc1 : c + total rs ≤ 100000000000) (hL : 2 ^ 60 ≤ L) :
  ∃ h', (∀ (R : Type) (k : A → H → Option R), kCall env (evCall env L n) h 22 [autA v al rs.length ac.length, .d (.int .i64 c)] k = k (.d (.int .i64 (c + total rs + ac.length))) h') ∧ h'.length = h.length ∧ Has h' v (marksR rs c) (marksB ac.length (c + total rs)) ∧ (∀ i, i < v ∨ v + 2 + rs.length ≤ i → h'[i]? = h[i]?) ∧ wgt h' ≤ wgt h :=
 kCall_aut0 x8o k0 hs.1 (xpr hn al rs ac c hs ha hc0 hc1 hL) (marksR_lens rs c)
end Ev
end Go.Proofs.Ytppdfjdfjfoddaa
end
