/-
  Automata that are the same.
-/
import Derived.Test.YtppdfjdfjfoddaaAutoL
set_option linter.unusedSimpArgs false
set_option linter.unusedVariables false
set_option maxRecDepth 8000
set_option maxHeartbeats 4000000
namespace Go.Proofs.Ytppdfjdfjfoddaa
namespace Ev
theorem xo9 {R : Type} {L n : Nat} (hn : 1 ≤ n) {l : List Int} (hl : l.length ≤ 4294967296) {k : Exit → List A → H → Option R} : ∀ (i : Int) (m : Nat) (h0 : 0 ≤ i) (hi : i ≤ l.length) (hm : (l.length : Int) - i < m),
  kLoop env (evCall env L n) L 0 [] (U2 (Z2 (U2 (Z16 (Z4 ([])))))) (xcm 0) (Z2 (U2 (Z2 (U16 (U4 ([])))))) m (.d (.ivs l.length (ints l)) :: .d (.ivs l.length (ints l)) :: Y2 (.d (.bool false) :: .d (.int .i64 i) :: Y16 (Y4 ([])))) [] k
  = k (.exit 0) (.d (.ivs l.length (ints l)) :: .d (.ivs l.length (ints l)) :: Y2 (.d (.bool false) :: .d (.int .i64 (l.length)) :: Y16 (Y4 ([])))) [] := by
 intro i m h0 hi hm
 obtain ⟨j, hj⟩ : ∃ j : Nat, (j : Int) = (l.length : Int) - i := ⟨((l.length : Int) - i).toNat, by omega⟩
 induction j generalizing i m with
 | zero =>
  obtain ⟨m, rfl⟩ : ∃ q, m = q + 1 := ⟨m - 1, by omega⟩
  obtain rfl : i = l.length := by omega
  rw [xi0]
  simp only [xh2, Try.f48, SLM, simprocAttr]
  simp -implicitDefEqProofs (maxSteps := 2000000) (disch := first | assumption | (refine Shut.mk ?_; kernel_rfl) | omega | (simp only [GT]; done) | (simp only [LN] <;> omega) | fail) only [↓DN, ↓kAsg, ↓kRet, UP, simprocAttr, LA, Int.lt_irrefl]
 | succ j ih =>
  obtain ⟨m, rfl⟩ : ∃ q, m = q + 1 := ⟨m - 1, by omega⟩
  have hc : i < l.length := by omega
  have hk : i.toNat < l.length := by omega
  rw [xi0]
  simp only [xh2, Try.f48, SLM, simprocAttr]
  simp -implicitDefEqProofs (maxSteps := 2000000) (disch := first | assumption | (refine Shut.mk ?_; kernel_rfl) | omega | (simp only [GT]; done) | (simp only [LN] <;> omega) | fail) only [↓DN, ↓kAsg, ↓kRet, UP, simprocAttr, LA, hc, u_ints, c_int, ↓ih]
theorem xmv {L n : Nat} (hn : 2 ≤ n) (l : List Int) (hl : l.length ≤ 4294967296) (hL : 2 ^ 60 ≤ L) : evCall env L n 48 [.d (.ivs l.length (ints l)), .d (.ivs l.length (ints l))] [] = some (.d (.bool true), []) := by
 obtain ⟨n, rfl⟩ : ∃ m, n = m + 1 := ⟨n - 1, by omega⟩
 rw [xpc]
 simp only [xnv, Try.f48, SLM, simprocAttr]
 simp -implicitDefEqProofs (maxSteps := 2000000) (disch := first | assumption | (refine Shut.mk ?_; kernel_rfl) | omega | (simp only [GT]; done) | (simp only [LN] <;> omega) | fail) only [↓DN, ↓kAsg, ↓kRet, UP, simprocAttr, ↓xo9, LA]
theorem xio {R : Type} {L n : Nat} {hq : H} {k : A → H → Option R} (hn : 2 ≤ n) (l : List Int) (hl : l.length ≤ 4294967296) (hL : 2 ^ 60 ≤ L) : kCall env (evCall env L n) hq 48 [.d (.ivs l.length (ints l)), .d (.ivs l.length (ints l))] k = k (.d (.bool true)) hq :=
 kCall_still rfl (xmv hn l hl hL) rfl (.inl rfl)
theorem xji {R : Type} {L n : Nat} {k : A → Option R} (hn : 2 ≤ n) (l : List Int) (hl : l.length ≤ 4294967296) (hL : 2 ^ 60 ≤ L) : kLent (evCall env L n) 48 [.d (.ivs l.length (ints l)), .d (.ivs l.length (ints l))] k = k (.d (.bool true)) :=
 kLent_ev (xmv hn l hl hL) rfl
theorem xfp {R : Type} {L n : Nat} {hq : H} {k : A → H → Option R} {id0 g0 o0 len0 : Nat} {l : List Int} : kCall env (evCall env L n) hq 48 [.sl id0 g0 o0 len0, .d (.ivs l.length (ints l))] k = match box (lentA hq [.sl id0 g0 o0 len0, .d (.ivs l.length (ints l))]) with
  | .mk (some fs) => kLent (evCall env L n) 48 fs fun r => k r hq
  | _ => none := kCall_lent x8y
theorem xfr {R : Type} {L n : Nat} {hq : H} {k : A → H → Option R} {id1 g1 o1 len1 : Nat} {l : List Int} : kCall env (evCall env L n) hq 48 [.d (.ivs l.length (ints l)), .sl id1 g1 o1 len1] k = match box (lentA hq [.d (.ivs l.length (ints l)), .sl id1 g1 o1 len1]) with
  | .mk (some fs) => kLent (evCall env L n) 48 fs fun r => k r hq
  | _ => none := kCall_lent x8y
theorem xfq {R : Type} {L n : Nat} {hq : H} {k : A → H → Option R} {id1 g1 o1 len1 : Nat} {id0 g0 o0 len0 : Nat}  : kCall env (evCall env L n) hq 48 [.sl id0 g0 o0 len0, .sl id1 g1 o1 len1] k = match box (lentA hq [.sl id0 g0 o0 len0, .sl id1 g1 o1 len1]) with
  | .mk (some fs) => kLent (evCall env L n) 48 fs fun r => k r hq
  | _ => none := kCall_lent x8y
theorem xny {R : Type} {L n : Nat} (hn : 1 ≤ n) {l : List Bool} (hl : l.length ≤ 4294967296) {k : Exit → List A → H → Option R} : ∀ (i : Int) (m : Nat) (h0 : 0 ≤ i) (hi : i ≤ l.length) (hm : (l.length : Int) - i < m),
  kLoop env (evCall env L n) L 0 [] (U2 (Z2 (U2 (Z16 (Z4 ([])))))) (xah 0) (Z2 (U2 (Z2 (U16 (U4 ([])))))) m (.d (.ivs l.length (bools l)) :: .d (.ivs l.length (bools l)) :: Y2 (.d (.bool false) :: .d (.int .i64 i) :: Y16 (Y4 ([])))) [] k
  = k (.exit 0) (.d (.ivs l.length (bools l)) :: .d (.ivs l.length (bools l)) :: Y2 (.d (.bool false) :: .d (.int .i64 (l.length)) :: Y16 (Y4 ([])))) [] := by
 intro i m h0 hi hm
 obtain ⟨j, hj⟩ : ∃ j : Nat, (j : Int) = (l.length : Int) - i := ⟨((l.length : Int) - i).toNat, by omega⟩
 induction j generalizing i m with
 | zero =>
  obtain ⟨m, rfl⟩ : ∃ q, m = q + 1 := ⟨m - 1, by omega⟩
  obtain rfl : i = l.length := by omega
  rw [xg4]
  simp only [xfs, Try.f47, SLM, simprocAttr]
  simp -implicitDefEqProofs (maxSteps := 2000000) (disch := first | assumption | (refine Shut.mk ?_; kernel_rfl) | omega | (simp only [GT]; done) | (simp only [LN] <;> omega) | fail) only [↓DN, ↓kAsg, ↓kRet, UP, simprocAttr, LA, Int.lt_irrefl]
 | succ j ih =>
  obtain ⟨m, rfl⟩ : ∃ q, m = q + 1 := ⟨m - 1, by omega⟩
  have hc : i < l.length := by omega
  have hk : i.toNat < l.length := by omega
  rw [xg4]
  simp only [xfs, Try.f47, SLM, simprocAttr]
  simp -implicitDefEqProofs (maxSteps := 2000000) (disch := first | assumption | (refine Shut.mk ?_; kernel_rfl) | omega | (simp only [GT]; done) | (simp only [LN] <;> omega) | fail) only [↓DN, ↓kAsg, ↓kRet, UP, simprocAttr, LA, hc, u_bools, c_bool, evBin_neqB, evBin_eqlB, bne_self_eq_false, ↓ih]
theorem xlf {L n : Nat} (hn : 2 ≤ n) (l : List Bool) (hl : l.length ≤ 4294967296) (hL : 2 ^ 60 ≤ L) : evCall env L n 47 [.d (.ivs l.length (bools l)), .d (.ivs l.length (bools l))] [] = some (.d (.bool true), []) := by
 obtain ⟨n, rfl⟩ : ∃ m, n = m + 1 := ⟨n - 1, by omega⟩
 rw [xou]
 simp only [xmz, Try.f47, SLM, simprocAttr]
 simp -implicitDefEqProofs (maxSteps := 2000000) (disch := first | assumption | (refine Shut.mk ?_; kernel_rfl) | omega | (simp only [GT]; done) | (simp only [LN] <;> omega) | fail) only [↓DN, ↓kAsg, ↓kRet, UP, simprocAttr, ↓xny, LA]
theorem xh4 {R : Type} {L n : Nat} {hq : H} {k : A → H → Option R} (hn : 2 ≤ n) (l : List Bool) (hl : l.length ≤ 4294967296) (hL : 2 ^ 60 ≤ L) : kCall env (evCall env L n) hq 47 [.d (.ivs l.length (bools l)), .d (.ivs l.length (bools l))] k = k (.d (.bool true)) hq :=
 kCall_still rfl (xlf hn l hl hL) rfl (.inl rfl)
theorem xh5 {R : Type} {L n : Nat} {k : A → Option R} (hn : 2 ≤ n) (l : List Bool) (hl : l.length ≤ 4294967296) (hL : 2 ^ 60 ≤ L) : kLent (evCall env L n) 47 [.d (.ivs l.length (bools l)), .d (.ivs l.length (bools l))] k = k (.d (.bool true)) :=
 kLent_ev (xlf hn l hl hL) rfl
theorem xdw {R : Type} {L n : Nat} {hq : H} {k : A → H → Option R} {id0 g0 o0 len0 : Nat} {l : List Bool} : kCall env (evCall env L n) hq 47 [.sl id0 g0 o0 len0, .d (.ivs l.length (bools l))] k = match box (lentA hq [.sl id0 g0 o0 len0, .d (.ivs l.length (bools l))]) with
  | .mk (some fs) => kLent (evCall env L n) 47 fs fun r => k r hq
  | _ => none := kCall_lent x7h
theorem xdu {R : Type} {L n : Nat} {hq : H} {k : A → H → Option R} {id1 g1 o1 len1 : Nat} {l : List Bool} : kCall env (evCall env L n) hq 47 [.d (.ivs l.length (bools l)), .sl id1 g1 o1 len1] k = match box (lentA hq [.d (.ivs l.length (bools l)), .sl id1 g1 o1 len1]) with
  | .mk (some fs) => kLent (evCall env L n) 47 fs fun r => k r hq
  | _ => none := kCall_lent x7h
theorem xel {R : Type} {L n : Nat} {hq : H} {k : A → H → Option R} {id1 g1 o1 len1 : Nat} {id0 g0 o0 len0 : Nat}  : kCall env (evCall env L n) hq 47 [.sl id0 g0 o0 len0, .sl id1 g1 o1 len1] k = match box (lentA hq [.sl id0 g0 o0 len0, .sl id1 g1 o1 len1]) with
  | .mk (some fs) => kLent (evCall env L n) 47 fs fun r => k r hq
  | _ => none := kCall_lent x7h
theorem xlh {R : Type} {L n : Nat} (hn : 3 ≤ n) (hL : 2 ^ 60 ≤ L) {al : Int} {l : List (List Int)} {ac : List Bool} (hs : rowsShort l) {k : Exit → List A → H → Option R} : ∀ (i : Int) (m : Nat) (h0 : 0 ≤ i) (hi : i ≤ l.length) (hm : (l.length : Int) - i < m),
  kLoop env (evCall env L n) L 0 [] (Z2 (U4 (Z32 (Z8 (Z1 ([])))))) (x6w 0) (U2 (Z4 (U32 (U8 (U1 ([])))))) m (Y2 (.ptr 0 0 0 :: .ptr 1 0 0 :: .d (.bool false) :: .d (.int .i64 i) :: Y32 (Y8 (Y1 ([]))))) [.box [.d (.int .i64 al), .d (.ivs l.length (rowsD l)), .d (.ivs ac.length (bools ac))], .box [.d (.int .i64 al), .d (.ivs l.length (rowsD l)), .d (.ivs ac.length (bools ac))]] k
  = k (.exit 0) (Y2 (.ptr 0 0 0 :: .ptr 1 0 0 :: .d (.bool false) :: .d (.int .i64 (l.length)) :: Y32 (Y8 (Y1 ([]))))) [.box [.d (.int .i64 al), .d (.ivs l.length (rowsD l)), .d (.ivs ac.length (bools ac))], .box [.d (.int .i64 al), .d (.ivs l.length (rowsD l)), .d (.ivs ac.length (bools ac))]] := by
 intro i m h0 hi hm
 have hl := hs.1
 obtain ⟨j, hj⟩ : ∃ j : Nat, (j : Int) = (l.length : Int) - i := ⟨((l.length : Int) - i).toNat, by omega⟩
 induction j generalizing i m with
 | zero =>
  obtain ⟨m, rfl⟩ : ∃ q, m = q + 1 := ⟨m - 1, by omega⟩
  obtain rfl : i = l.length := by omega
  rw [xdn]
  simp only [xbx, Try.f11, SLM, simprocAttr]
  simp -implicitDefEqProofs (maxSteps := 2000000) (disch := first | assumption | (refine Shut.mk ?_; kernel_rfl) | omega | (simp only [GT]; done) | (simp only [LN] <;> omega) | fail) only [↓DN, ↓kAsg, ↓kRet, UP, simprocAttr, ↓xh4, ↓xio, ↓xh5, ↓xji, ↓xdw, ↓xdu, ↓xel, ↓xfp, ↓xfr, ↓xfq, LA, Int.lt_irrefl]
 | succ j ih =>
  obtain ⟨m, rfl⟩ : ∃ q, m = q + 1 := ⟨m - 1, by omega⟩
  have hc : i < l.length := by omega
  have hk : i.toNat < l.length := by omega
  have hrow := short_at hs hk
  rw [xdn]
  simp only [xbx, Try.f11, SLM, simprocAttr]
  simp -implicitDefEqProofs (maxSteps := 2000000) (disch := first | assumption | (refine Shut.mk ?_; kernel_rfl) | omega | (simp only [GT]; done) | (simp only [LN] <;> omega) | fail) only [↓DN, ↓kAsg, ↓kRet, UP, simprocAttr, ↓xh4, ↓xio, ↓xh5, ↓xji, ↓xdw, ↓xdu, ↓xel, ↓xfp, ↓xfr, ↓xfq, LA, hc, u_intss, c_ints, ↓ih]
theorem xhc {L n : Nat} (hn : 4 ≤ n) (al : Int) (rs : List (List Int)) (ac : List Bool) (hs : rowsShort rs) (ha : ac.length ≤ 4294967296) (hL : 2 ^ 60 ≤ L) : evCall env L n 11 [.agg [.d (.int .i64 al), .d (.ivs rs.length (rowsD rs)), .d (.ivs ac.length (bools ac))], .agg [.d (.int .i64 al), .d (.ivs rs.length (rowsD rs)), .d (.ivs ac.length (bools ac))]] [] = some (.d (.bool true), []) := by
 have hl := hs.1
 obtain ⟨n, rfl⟩ : ∃ m, n = m + 1 := ⟨n - 1, by omega⟩
 rw [xne]
 simp only [xjb, Try.f11, SLM, simprocAttr]
 simp -implicitDefEqProofs (maxSteps := 2000000) (disch := first | assumption | (refine Shut.mk ?_; kernel_rfl) | omega | (simp only [GT]; done) | (simp only [LN] <;> omega) | fail) only [↓DN, ↓kAsg, ↓kRet, UP, simprocAttr, ↓xh4, ↓xio, ↓xh5, ↓xji, ↓xdw, ↓xdu, ↓xel, ↓xfp, ↓xfr, ↓xfq, ↓xlh, LA]
theorem x5a {R : Type} {L n : Nat} {hq : H} {k : A → H → Option R} (hn : 4 ≤ n) (al : Int) (rs : List (List Int)) (ac : List Bool) (hs : rowsShort rs) (ha : ac.length ≤ 4294967296) (hL : 2 ^ 60 ≤ L) : kCall env (evCall env L n) hq 11 [.agg [.d (.int .i64 al), .d (.ivs rs.length (rowsD rs)), .d (.ivs ac.length (bools ac))], .agg [.d (.int .i64 al), .d (.ivs rs.length (rowsD rs)), .d (.ivs ac.length (bools ac))]] k = k (.d (.bool true)) hq :=
 kCall_still rfl (xhc hn al rs ac hs ha hL) rfl (.inl rfl)
theorem x5w {R : Type} {L n : Nat} {k : A → Option R} (hn : 4 ≤ n) (al : Int) (rs : List (List Int)) (ac : List Bool) (hs : rowsShort rs) (ha : ac.length ≤ 4294967296) (hL : 2 ^ 60 ≤ L) : kLent (evCall env L n) 11 [.agg [.d (.int .i64 al), .d (.ivs rs.length (rowsD rs)), .d (.ivs ac.length (bools ac))], .agg [.d (.int .i64 al), .d (.ivs rs.length (rowsD rs)), .d (.ivs ac.length (bools ac))]] k = k (.d (.bool true)) :=
 kLent_ev (xhc hn al rs ac hs ha hL) rfl
theorem x58 {R : Type} {L n : Nat} {hq : H} {k : A → H → Option R} {id0 g0 o0 len0 : Nat} {al : Int} {rs : List (List Int)} {ac : List Bool} : kCall env (evCall env L n) hq 11 [.agg [.d (.int .i64 al), .sl id0 g0 o0 len0, .d (.ivs ac.length (bools ac))], .agg [.d (.int .i64 al), .d (.ivs rs.length (rowsD rs)), .d (.ivs ac.length (bools ac))]] k = match box (lentA hq [.agg [.d (.int .i64 al), .sl id0 g0 o0 len0, .d (.ivs ac.length (bools ac))], .agg [.d (.int .i64 al), .d (.ivs rs.length (rowsD rs)), .d (.ivs ac.length (bools ac))]]) with
  | .mk (some fs) => kLent (evCall env L n) 11 fs fun r => k r hq
  | _ => none := kCall_lent x11
theorem x50 {R : Type} {L n : Nat} {hq : H} {k : A → H → Option R} {id1 g1 o1 len1 : Nat} {al : Int} {rs : List (List Int)} {ac : List Bool} : kCall env (evCall env L n) hq 11 [.agg [.d (.int .i64 al), .d (.ivs rs.length (rowsD rs)), .sl id1 g1 o1 len1], .agg [.d (.int .i64 al), .d (.ivs rs.length (rowsD rs)), .d (.ivs ac.length (bools ac))]] k = match box (lentA hq [.agg [.d (.int .i64 al), .d (.ivs rs.length (rowsD rs)), .sl id1 g1 o1 len1], .agg [.d (.int .i64 al), .d (.ivs rs.length (rowsD rs)), .d (.ivs ac.length (bools ac))]]) with
  | .mk (some fs) => kLent (evCall env L n) 11 fs fun r => k r hq
  | _ => none := kCall_lent x11
theorem x54 {R : Type} {L n : Nat} {hq : H} {k : A → H → Option R} {id1 g1 o1 len1 : Nat} {id0 g0 o0 len0 : Nat} {al : Int} {rs : List (List Int)} {ac : List Bool} : kCall env (evCall env L n) hq 11 [.agg [.d (.int .i64 al), .sl id0 g0 o0 len0, .sl id1 g1 o1 len1], .agg [.d (.int .i64 al), .d (.ivs rs.length (rowsD rs)), .d (.ivs ac.length (bools ac))]] k = match box (lentA hq [.agg [.d (.int .i64 al), .sl id0 g0 o0 len0, .sl id1 g1 o1 len1], .agg [.d (.int .i64 al), .d (.ivs rs.length (rowsD rs)), .d (.ivs ac.length (bools ac))]]) with
  | .mk (some fs) => kLent (evCall env L n) 11 fs fun r => k r hq
  | _ => none := kCall_lent x11
theorem x4v {R : Type} {L n : Nat} {hq : H} {k : A → H → Option R} {id2 g2 o2 len2 : Nat} {al : Int} {rs : List (List Int)} {ac : List Bool} : kCall env (evCall env L n) hq 11 [.agg [.d (.int .i64 al), .d (.ivs rs.length (rowsD rs)), .d (.ivs ac.length (bools ac))], .agg [.d (.int .i64 al), .sl id2 g2 o2 len2, .d (.ivs ac.length (bools ac))]] k = match box (lentA hq [.agg [.d (.int .i64 al), .d (.ivs rs.length (rowsD rs)), .d (.ivs ac.length (bools ac))], .agg [.d (.int .i64 al), .sl id2 g2 o2 len2, .d (.ivs ac.length (bools ac))]]) with
  | .mk (some fs) => kLent (evCall env L n) 11 fs fun r => k r hq
  | _ => none := kCall_lent x11
theorem x59 {R : Type} {L n : Nat} {hq : H} {k : A → H → Option R} {id2 g2 o2 len2 : Nat} {id0 g0 o0 len0 : Nat} {al : Int} {ac : List Bool} : kCall env (evCall env L n) hq 11 [.agg [.d (.int .i64 al), .sl id0 g0 o0 len0, .d (.ivs ac.length (bools ac))], .agg [.d (.int .i64 al), .sl id2 g2 o2 len2, .d (.ivs ac.length (bools ac))]] k = match box (lentA hq [.agg [.d (.int .i64 al), .sl id0 g0 o0 len0, .d (.ivs ac.length (bools ac))], .agg [.d (.int .i64 al), .sl id2 g2 o2 len2, .d (.ivs ac.length (bools ac))]]) with
  | .mk (some fs) => kLent (evCall env L n) 11 fs fun r => k r hq
  | _ => none := kCall_lent x11
theorem x4z {R : Type} {L n : Nat} {hq : H} {k : A → H → Option R} {id2 g2 o2 len2 : Nat} {id1 g1 o1 len1 : Nat} {al : Int} {rs : List (List Int)} {ac : List Bool} : kCall env (evCall env L n) hq 11 [.agg [.d (.int .i64 al), .d (.ivs rs.length (rowsD rs)), .sl id1 g1 o1 len1], .agg [.d (.int .i64 al), .sl id2 g2 o2 len2, .d (.ivs ac.length (bools ac))]] k = match box (lentA hq [.agg [.d (.int .i64 al), .d (.ivs rs.length (rowsD rs)), .sl id1 g1 o1 len1], .agg [.d (.int .i64 al), .sl id2 g2 o2 len2, .d (.ivs ac.length (bools ac))]]) with
  | .mk (some fs) => kLent (evCall env L n) 11 fs fun r => k r hq
  | _ => none := kCall_lent x11
theorem x4y {R : Type} {L n : Nat} {hq : H} {k : A → H → Option R} {id2 g2 o2 len2 : Nat} {id1 g1 o1 len1 : Nat} {id0 g0 o0 len0 : Nat} {al : Int} {ac : List Bool} : kCall env (evCall env L n) hq 11 [.agg [.d (.int .i64 al), .sl id0 g0 o0 len0, .sl id1 g1 o1 len1], .agg [.d (.int .i64 al), .sl id2 g2 o2 len2, .d (.ivs ac.length (bools ac))]] k = match box (lentA hq [.agg [.d (.int .i64 al), .sl id0 g0 o0 len0, .sl id1 g1 o1 len1], .agg [.d (.int .i64 al), .sl id2 g2 o2 len2, .d (.ivs ac.length (bools ac))]]) with
  | .mk (some fs) => kLent (evCall env L n) 11 fs fun r => k r hq
  | _ => none := kCall_lent x11
theorem x52 {R : Type} {L n : Nat} {hq : H} {k : A → H → Option R} {id3 g3 o3 len3 : Nat} {al : Int} {rs : List (List Int)} {ac : List Bool} : kCall env (evCall env L n) hq 11 [.agg [.d (.int .i64 al), .d (.ivs rs.length (rowsD rs)), .d (.ivs ac.length (bools ac))], .agg [.d (.int .i64 al), .d (.ivs rs.length (rowsD rs)), .sl id3 g3 o3 len3]] k = match box (lentA hq [.agg [.d (.int .i64 al), .d (.ivs rs.length (rowsD rs)), .d (.ivs ac.length (bools ac))], .agg [.d (.int .i64 al), .d (.ivs rs.length (rowsD rs)), .sl id3 g3 o3 len3]]) with
  | .mk (some fs) => kLent (evCall env L n) 11 fs fun r => k r hq
  | _ => none := kCall_lent x11
theorem x56 {R : Type} {L n : Nat} {hq : H} {k : A → H → Option R} {id3 g3 o3 len3 : Nat} {id0 g0 o0 len0 : Nat} {al : Int} {rs : List (List Int)} {ac : List Bool} : kCall env (evCall env L n) hq 11 [.agg [.d (.int .i64 al), .sl id0 g0 o0 len0, .d (.ivs ac.length (bools ac))], .agg [.d (.int .i64 al), .d (.ivs rs.length (rowsD rs)), .sl id3 g3 o3 len3]] k = match box (lentA hq [.agg [.d (.int .i64 al), .sl id0 g0 o0 len0, .d (.ivs ac.length (bools ac))], .agg [.d (.int .i64 al), .d (.ivs rs.length (rowsD rs)), .sl id3 g3 o3 len3]]) with
  | .mk (some fs) => kLent (evCall env L n) 11 fs fun r => k r hq
  | _ => none := kCall_lent x11
theorem x4l {R : Type} {L n : Nat} {hq : H} {k : A → H → Option R} {id3 g3 o3 len3 : Nat} {id1 g1 o1 len1 : Nat} {al : Int} {rs : List (List Int)} : kCall env (evCall env L n) hq 11 [.agg [.d (.int .i64 al), .d (.ivs rs.length (rowsD rs)), .sl id1 g1 o1 len1], .agg [.d (.int .i64 al), .d (.ivs rs.length (rowsD rs)), .sl id3 g3 o3 len3]] k = match box (lentA hq [.agg [.d (.int .i64 al), .d (.ivs rs.length (rowsD rs)), .sl id1 g1 o1 len1], .agg [.d (.int .i64 al), .d (.ivs rs.length (rowsD rs)), .sl id3 g3 o3 len3]]) with
  | .mk (some fs) => kLent (evCall env L n) 11 fs fun r => k r hq
  | _ => none := kCall_lent x11
theorem x4i {R : Type} {L n : Nat} {hq : H} {k : A → H → Option R} {id3 g3 o3 len3 : Nat} {id1 g1 o1 len1 : Nat} {id0 g0 o0 len0 : Nat} {al : Int} {rs : List (List Int)} : kCall env (evCall env L n) hq 11 [.agg [.d (.int .i64 al), .sl id0 g0 o0 len0, .sl id1 g1 o1 len1], .agg [.d (.int .i64 al), .d (.ivs rs.length (rowsD rs)), .sl id3 g3 o3 len3]] k = match box (lentA hq [.agg [.d (.int .i64 al), .sl id0 g0 o0 len0, .sl id1 g1 o1 len1], .agg [.d (.int .i64 al), .d (.ivs rs.length (rowsD rs)), .sl id3 g3 o3 len3]]) with
  | .mk (some fs) => kLent (evCall env L n) 11 fs fun r => k r hq
  | _ => none := kCall_lent x11
theorem x4g {R : Type} {L n : Nat} {hq : H} {k : A → H → Option R} {id3 g3 o3 len3 : Nat} {id2 g2 o2 len2 : Nat} {al : Int} {rs : List (List Int)} {ac : List Bool} : kCall env (evCall env L n) hq 11 [.agg [.d (.int .i64 al), .d (.ivs rs.length (rowsD rs)), .d (.ivs ac.length (bools ac))], .agg [.d (.int .i64 al), .sl id2 g2 o2 len2, .sl id3 g3 o3 len3]] k = match box (lentA hq [.agg [.d (.int .i64 al), .d (.ivs rs.length (rowsD rs)), .d (.ivs ac.length (bools ac))], .agg [.d (.int .i64 al), .sl id2 g2 o2 len2, .sl id3 g3 o3 len3]]) with
  | .mk (some fs) => kLent (evCall env L n) 11 fs fun r => k r hq
  | _ => none := kCall_lent x11
theorem x4h {R : Type} {L n : Nat} {hq : H} {k : A → H → Option R} {id3 g3 o3 len3 : Nat} {id2 g2 o2 len2 : Nat} {id0 g0 o0 len0 : Nat} {al : Int} {ac : List Bool} : kCall env (evCall env L n) hq 11 [.agg [.d (.int .i64 al), .sl id0 g0 o0 len0, .d (.ivs ac.length (bools ac))], .agg [.d (.int .i64 al), .sl id2 g2 o2 len2, .sl id3 g3 o3 len3]] k = match box (lentA hq [.agg [.d (.int .i64 al), .sl id0 g0 o0 len0, .d (.ivs ac.length (bools ac))], .agg [.d (.int .i64 al), .sl id2 g2 o2 len2, .sl id3 g3 o3 len3]]) with
  | .mk (some fs) => kLent (evCall env L n) 11 fs fun r => k r hq
  | _ => none := kCall_lent x11
theorem x4k {R : Type} {L n : Nat} {hq : H} {k : A → H → Option R} {id3 g3 o3 len3 : Nat} {id2 g2 o2 len2 : Nat} {id1 g1 o1 len1 : Nat} {al : Int} {rs : List (List Int)} : kCall env (evCall env L n) hq 11 [.agg [.d (.int .i64 al), .d (.ivs rs.length (rowsD rs)), .sl id1 g1 o1 len1], .agg [.d (.int .i64 al), .sl id2 g2 o2 len2, .sl id3 g3 o3 len3]] k = match box (lentA hq [.agg [.d (.int .i64 al), .d (.ivs rs.length (rowsD rs)), .sl id1 g1 o1 len1], .agg [.d (.int .i64 al), .sl id2 g2 o2 len2, .sl id3 g3 o3 len3]]) with
  | .mk (some fs) => kLent (evCall env L n) 11 fs fun r => k r hq
  | _ => none := kCall_lent x11
theorem x4e {R : Type} {L n : Nat} {hq : H} {k : A → H → Option R} {id3 g3 o3 len3 : Nat} {id2 g2 o2 len2 : Nat} {id1 g1 o1 len1 : Nat} {id0 g0 o0 len0 : Nat} {al : Int} : kCall env (evCall env L n) hq 11 [.agg [.d (.int .i64 al), .sl id0 g0 o0 len0, .sl id1 g1 o1 len1], .agg [.d (.int .i64 al), .sl id2 g2 o2 len2, .sl id3 g3 o3 len3]] k = match box (lentA hq [.agg [.d (.int .i64 al), .sl id0 g0 o0 len0, .sl id1 g1 o1 len1], .agg [.d (.int .i64 al), .sl id2 g2 o2 len2, .sl id3 g3 o3 len3]]) with
  | .mk (some fs) => kLent (evCall env L n) 11 fs fun r => k r hq
  | _ => none := kCall_lent x11
end Ev
end Go.Proofs.Ytppdfjdfjfoddaa
