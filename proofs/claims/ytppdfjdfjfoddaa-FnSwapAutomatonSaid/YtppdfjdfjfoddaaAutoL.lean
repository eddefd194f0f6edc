/-
  Letters and alphabets: what the small functions give.
-/
import Derived.Test.YtppdfjdfjfoddaaLib
import Derived.Test.YtppdfjdfjfoddaaVec
section
set_option linter.unusedSimpArgs false
set_option maxRecDepth 8000
namespace Go.Proofs.Ytppdfjdfjfoddaa
namespace Ev
def swapI (l x y : Int) : Int := if l = x then y else if l = y then x else l
def isLet (x : Int) : Bool := decide (0 ≤ x ∧ x < 6)
def isAlpha (x : Int) : Bool := decide (0 ≤ x ∧ x ≤ 63)
theorem xl9 {L n : Nat} (hn : 1 ≤ n) (a : Int) : evCall env L n 79 [.d (.int .i64 a)] [] = some (.d (.bool (isAlpha a)), []) := by
 obtain ⟨n, rfl⟩ : ∃ m, n = m + 1 := ⟨n - 1, by omega⟩
 rw [xlv]
 simp only [xgg, Try.f79, SLM, simprocAttr]
 simp -implicitDefEqProofs (maxSteps := 2000000) (disch := first | assumption | (refine Shut.mk ?_; kernel_rfl) | omega | (simp only [GT]; done) | (simp only [LN] <;> omega) | fail) only [↓DN, ↓kAsg, ↓kRet, UP, simprocAttr]
 by_cases h : 0 ≤ a <;> simp [h, isAlpha]
theorem x14 {R : Type} {L n : Nat} {hq : H} {k : A → H → Option R} (hn : 1 ≤ n) (a : Int) : kCall env (evCall env L n) hq 79 [.d (.int .i64 a)] k = k (.d (.bool (isAlpha a))) hq :=
 kCall_still rfl (xl9 hn a) rfl (.inl rfl)
theorem xmf {L n : Nat} (hn : 1 ≤ n) (a : Int) : evCall env L n 42 [.d (.int .i64 a)] [] = some (.d (.bool (isLet a)), []) := by
 obtain ⟨n, rfl⟩ : ∃ m, n = m + 1 := ⟨n - 1, by omega⟩
 rw [xmd]
 simp only [xi5, Try.f42, SLM, simprocAttr]
 simp -implicitDefEqProofs (maxSteps := 2000000) (disch := first | assumption | (refine Shut.mk ?_; kernel_rfl) | omega | (simp only [GT]; done) | (simp only [LN] <;> omega) | fail) only [↓DN, ↓kAsg, ↓kRet, UP, simprocAttr]
 by_cases h : 0 ≤ a <;> simp [h, isLet]
theorem x16 {R : Type} {L n : Nat} {hq : H} {k : A → H → Option R} (hn : 1 ≤ n) (a : Int) : kCall env (evCall env L n) hq 42 [.d (.int .i64 a)] k = k (.d (.bool (isLet a))) hq :=
 kCall_still rfl (xmf hn a) rfl (.inl rfl)
theorem xl5 {L n : Nat} (hn : 1 ≤ n) (a : Int) : evCall env L n 49 [.d (.int .i64 a)] [] = some (.d (.bool (isAlpha a)), []) := by
 obtain ⟨n, rfl⟩ : ∃ m, n = m + 1 := ⟨n - 1, by omega⟩
 rw [xlb]
 simp only [xgn, Try.f49, SLM, simprocAttr]
 simp -implicitDefEqProofs (maxSteps := 2000000) (disch := first | assumption | (refine Shut.mk ?_; kernel_rfl) | omega | (simp only [GT]; done) | (simp only [LN] <;> omega) | fail) only [↓DN, ↓kAsg, ↓kRet, UP, simprocAttr]
 by_cases h : 0 ≤ a <;> simp [h, isAlpha]
theorem x4 {R : Type} {L n : Nat} {hq : H} {k : A → H → Option R} (hn : 1 ≤ n) (a : Int) : kCall env (evCall env L n) hq 49 [.d (.int .i64 a)] k = k (.d (.bool (isAlpha a))) hq :=
 kCall_still rfl (xl5 hn a) rfl (.inl rfl)
theorem xnc {L n : Nat} (hn : 1 ≤ n) (a : Int) : evCall env L n 35 [.d (.int .i64 a)] [] = some (.d (.bool (isLet a)), []) := by
 obtain ⟨n, rfl⟩ : ∃ m, n = m + 1 := ⟨n - 1, by omega⟩
 rw [xna]
 simp only [xil, Try.f35, SLM, simprocAttr]
 simp -implicitDefEqProofs (maxSteps := 2000000) (disch := first | assumption | (refine Shut.mk ?_; kernel_rfl) | omega | (simp only [GT]; done) | (simp only [LN] <;> omega) | fail) only [↓DN, ↓kAsg, ↓kRet, UP, simprocAttr]
 by_cases h : 0 ≤ a <;> simp [h, isLet]
theorem xz {R : Type} {L n : Nat} {hq : H} {k : A → H → Option R} (hn : 1 ≤ n) (a : Int) : kCall env (evCall env L n) hq 35 [.d (.int .i64 a)] k = k (.d (.bool (isLet a))) hq :=
 kCall_still rfl (xnc hn a) rfl (.inl rfl)
theorem xnl {L n : Nat} (hn : 1 ≤ n) (l x y : Int) : evCall env L n 46 [.d (.int .i64 l), .d (.int .i64 x), .d (.int .i64 y)] [] = some (.d (.int .i64 (swapI l x y)), []) := by
 obtain ⟨n, rfl⟩ : ∃ m, n = m + 1 := ⟨n - 1, by omega⟩
 rw [xnn]
 simp only [xke, Try.f46, SLM, simprocAttr]
 simp -implicitDefEqProofs (maxSteps := 2000000) (disch := first | assumption | (refine Shut.mk ?_; kernel_rfl) | omega | (simp only [GT]; done) | (simp only [LN] <;> omega) | fail) only [↓DN, ↓kAsg, ↓kRet, UP, simprocAttr]
 unfold swapI
 split
 ·rfl
 ·split <;> rfl
theorem x1f {R : Type} {L n : Nat} {hq : H} {k : A → H → Option R} (hn : 1 ≤ n) (l x y : Int) : kCall env (evCall env L n) hq 46 [.d (.int .i64 l), .d (.int .i64 x), .d (.int .i64 y)] k = k (.d (.int .i64 (swapI l x y))) hq :=
 kCall_still rfl (xnl hn l x y) rfl (.inl rfl)
theorem xnu {L n : Nat} (hn : 1 ≤ n) (l x y : Int) : evCall env L n 40 [.d (.int .i64 l), .d (.int .i64 x), .d (.int .i64 y)] [] = some (.d (.int .i64 (swapI l x y)), []) := by
 obtain ⟨n, rfl⟩ : ∃ m, n = m + 1 := ⟨n - 1, by omega⟩
 rw [xo2]
 simp only [xk2, Try.f40, SLM, simprocAttr]
 simp -implicitDefEqProofs (maxSteps := 2000000) (disch := first | assumption | (refine Shut.mk ?_; kernel_rfl) | omega | (simp only [GT]; done) | (simp only [LN] <;> omega) | fail) only [↓DN, ↓kAsg, ↓kRet, UP, simprocAttr]
 unfold swapI
 split
 ·rfl
 ·split <;> rfl
theorem x12 {R : Type} {L n : Nat} {hq : H} {k : A → H → Option R} (hn : 1 ≤ n) (l x y : Int) : kCall env (evCall env L n) hq 40 [.d (.int .i64 l), .d (.int .i64 x), .d (.int .i64 y)] k = k (.d (.int .i64 (swapI l x y))) hq :=
 kCall_still rfl (xnu hn l x y) rfl (.inl rfl)
def bitAt (a i : Int) : Bool := decide ((a.fdiv (2 ^ (min i.toNat 64))) % 2 = 1)
def bitI (n : Int) : Int := IntKind.i64.wrap (1 * 2 ^ (min n.toNat 64))
theorem toNat_ofInt (x : Int) : ((BitVec.ofInt 64 x).toNat : Int) = x % 18446744073709551616 := by
 rw [BitVec.toNat_ofInt]
 omega
theorem iAnd_one (x : Int) : iAnd .i64 x 1 = x % 2 := by
 unfold iAnd
 have h1 : (BitVec.ofInt IntKind.i64.bits x &&& BitVec.ofInt IntKind.i64.bits 1).toNat = (BitVec.ofInt 64 x).toNat % 2 := by
  change (BitVec.ofInt 64 x &&& BitVec.ofInt 64 1).toNat = _
  rw [BitVec.toNat_and]
  exact Nat.and_one_is_mod _
 rw [h1]
 have h2 := toNat_ofInt x
 rw [i64_id (by omega) (by omega)]
 omega
theorem bits64 : IntKind.i64.bits = 64 := rfl
theorem xot {L n : Nat} (hn : 1 ≤ n) (a i : Int) (hi : 0 ≤ i) (hi2 : i ≤ 9223372036854775807) : evCall env L n 81 [.d (.int .i64 a), .d (.int .i64 i)] [] = some (.d (.bool (bitAt a i)), []) := by
 obtain ⟨n, rfl⟩ : ∃ m, n = m + 1 := ⟨n - 1, by omega⟩
 rw [xp1]
 simp only [xml, Try.f81, SLM, simprocAttr]
 simp -implicitDefEqProofs (maxSteps := 2000000) (disch := first | assumption | (refine Shut.mk ?_; kernel_rfl) | omega | (simp only [GT]; done) | (simp only [LN] <;> omega) | fail) only [↓DN, ↓kAsg, ↓kRet, UP, simprocAttr, ↓conv_int_uint, u64_id, iAnd_one, bits64]
 rfl
theorem x22 {R : Type} {L n : Nat} {hq : H} {k : A → H → Option R} (hn : 1 ≤ n) (a i : Int) (hi : 0 ≤ i) (hi2 : i ≤ 9223372036854775807) : kCall env (evCall env L n) hq 81 [.d (.int .i64 a), .d (.int .i64 i)] k = k (.d (.bool (bitAt a i))) hq :=
 kCall_still rfl (xot hn a i hi hi2) rfl (.inl rfl)
theorem xpm {L n : Nat} (hn : 1 ≤ n) (a i : Int) : evCall env L n 68 [.d (.int .i64 a), .d (.int .i64 i)] [] = some (.d (.bool (decide (0 ≤ i) && bitAt a i)), []) := by
 obtain ⟨n, rfl⟩ : ∃ m, n = m + 1 := ⟨n - 1, by omega⟩
 rw [xpl]
 simp only [xon, Try.f68, SLM, simprocAttr]
 simp -implicitDefEqProofs (maxSteps := 2000000) (disch := first | assumption | (refine Shut.mk ?_; kernel_rfl) | omega | (simp only [GT]; done) | (simp only [LN] <;> omega) | fail) only [↓DN, ↓kAsg, ↓kRet, UP, simprocAttr, iAnd_one, bits64]
 by_cases h : 0 ≤ i <;> simp [h, bitAt]
theorem x5l {R : Type} {L n : Nat} {hq : H} {k : A → H → Option R} (hn : 1 ≤ n) (a i : Int) : kCall env (evCall env L n) hq 68 [.d (.int .i64 a), .d (.int .i64 i)] k = k (.d (.bool (decide (0 ≤ i) && bitAt a i))) hq :=
 kCall_still rfl (xpm hn a i) rfl (.inl rfl)
theorem xoy {L n : Nat} (hn : 1 ≤ n) (i : Int) (hi : 0 ≤ i) (hi2 : i ≤ 9223372036854775807) : evCall env L n 82 [.d (.int .i64 i)] [] = some (.d (.int .i64 (bitI i)), []) := by
 obtain ⟨n, rfl⟩ : ∃ m, n = m + 1 := ⟨n - 1, by omega⟩
 rw [xox]
 simp only [xn1, Try.f82, SLM, simprocAttr]
 simp -implicitDefEqProofs (maxSteps := 2000000) (disch := first | assumption | (refine Shut.mk ?_; kernel_rfl) | omega | (simp only [GT]; done) | (simp only [LN] <;> omega) | fail) only [↓DN, ↓kAsg, ↓kRet, UP, simprocAttr, ↓conv_int_uint, u64_id, bits64]
 rfl
theorem x80 {R : Type} {L n : Nat} {hq : H} {k : A → H → Option R} (hn : 1 ≤ n) (i : Int) (hi : 0 ≤ i) (hi2 : i ≤ 9223372036854775807) : kCall env (evCall env L n) hq 82 [.d (.int .i64 i)] k = k (.d (.int .i64 (bitI i))) hq :=
 kCall_still rfl (xoy hn i hi hi2) rfl (.inl rfl)
def letters (a : Int) : List Int := [0, 1, 2, 3, 4, 5].filter (bitAt a)
def orLet (x y : Int) (out l : Int) : Int := iOr .i64 out (bitI (swapI l x y))
def swapAlpha (a x y : Int) : Int := if isAlpha a && isLet x && isLet y then (letters a).foldl (orLet x y) 0 else -1
theorem swapI_let {l x y : Int} (hl : 0 ≤ l) (hx : 0 ≤ x) (hy : 0 ≤ y) : 0 ≤ swapI l x y := by
 unfold swapI; split
 ·exact hy
 ·split <;> assumption
theorem swapI_le {l x y b : Int} (hl : l ≤ b) (hx : x ≤ b) (hy : y ≤ b) : swapI l x y ≤ b := by
 unfold swapI; split
 ·exact hy
 ·split <;> assumption
def restL : Nat → List Int
 | 0 => []
 | j + 1 => (6 - ((j + 1 : Nat) : Int)) :: restL j
theorem x45 {R : Type} {L n : Nat} (hn : 2 ≤ n) {a x y : Int} (hx : 0 ≤ x) (hx6 : x ≤ 5) (hy : 0 ≤ y) (hy6 : y ≤ 5) {k : Exit → List A → H → Option R} : ∀ (j : Nat) (i out : Int) (m : Nat), i + j = 6 → 0 ≤ i → j < m →
  kLoop env (evCall env L n) L 0 [] (U2 (U1 (Z2 (Z1 (U2 (U1 (Z16 (Z8 (Z4 ([])))))))))) (x3r 0) (Z2 (Z1 (U2 (U1 (Z2 (Z1 (U16 (U8 (U4 ([])))))))))) m (.d (.int .i64 a) :: .d (.int .i64 x) :: .d (.int .i64 y) :: Y2 (Y1 (.d (.int .i64 0) :: .d (.int .i64 out) :: .d (.int .i64 i) :: Y16 (Y8 (Y4 ([])))))) [] k
  = k (.exit 0) (.d (.int .i64 a) :: .d (.int .i64 x) :: .d (.int .i64 y) :: Y2 (Y1 (.d (.int .i64 0) :: .d (.int .i64 (((restL j).filter (bitAt a)).foldl (orLet x y) out)) :: .d (.int .i64 6) :: Y16 (Y8 (Y4 ([])))))) [] := by
 intro j
 induction j with
 | zero =>
  intro i out m hi h0 hm
  obtain ⟨m, rfl⟩ : ∃ q, m = q + 1 := ⟨m - 1, by omega⟩
  obtain rfl : i = 6 := by omega
  rw [x9p]
  simp only [x7p, Try.f43, SLM, simprocAttr]
  simp -implicitDefEqProofs (maxSteps := 2000000) (disch := first | assumption | (refine Shut.mk ?_; kernel_rfl) | omega | (simp only [GT]; done) | (simp only [LN] <;> omega) | fail) only [↓DN, ↓kAsg, ↓kRet, UP, simprocAttr, ↓x14, ↓x16, ↓x22, ↓x1f, ↓x80]
  rfl
 | succ j ih =>
  intro i out m hi h0 hm
  obtain ⟨m, rfl⟩ : ∃ q, m = q + 1 := ⟨m - 1, by omega⟩
  have hc : i < 6 := by omega
  have hs1 := swapI_let h0 hx hy
  have hs2 := swapI_le (b := 5) (by omega : i ≤ 5) hx6 hy6
  rw [x9p]
  simp only [x7p, Try.f43, SLM, simprocAttr]
  simp -implicitDefEqProofs (maxSteps := 2000000) (disch := first | assumption | (refine Shut.mk ?_; kernel_rfl) | omega | (simp only [GT]; done) | (simp only [LN] <;> omega) | fail) only [↓DN, ↓kAsg, ↓kRet, UP, simprocAttr, ↓x14, ↓x16, ↓x22, ↓x80, ↓x1f, ↓ih, hc, i64_id]
  have hr : restL (j + 1) = i :: restL j := by simp only [restL]; congr 1; omega
  rw [hr, List.filter_cons]
  cases bitAt a i <;> rfl
theorem x40 {R : Type} {L n m : Nat} (hn : 2 ≤ n) {a x y : Int} (hx : 0 ≤ x) (hx6 : x ≤ 5) (hy : 0 ≤ y) (hy6 : y ≤ 5) {k : Exit → List A → H → Option R} (hm : 6 < m) :
  kLoop env (evCall env L n) L 0 [] (U2 (U1 (Z2 (Z1 (U2 (U1 (Z16 (Z8 (Z4 ([])))))))))) (x3r 0) (Z2 (Z1 (U2 (U1 (Z2 (Z1 (U16 (U8 (U4 ([])))))))))) m (.d (.int .i64 a) :: .d (.int .i64 x) :: .d (.int .i64 y) :: Y2 (Y1 (.d (.int .i64 0) :: .d (.int .i64 0) :: .d (.int .i64 0) :: Y16 (Y8 (Y4 ([])))))) [] k
  = k (.exit 0) (.d (.int .i64 a) :: .d (.int .i64 x) :: .d (.int .i64 y) :: Y2 (Y1 (.d (.int .i64 0) :: .d (.int .i64 ((letters a).foldl (orLet x y) 0)) :: .d (.int .i64 6) :: Y16 (Y8 (Y4 ([])))))) [] :=
 x45 hn hx hx6 hy hy6 6 0 0 m rfl (by omega) hm
theorem isLet_iff {x : Int} : isLet x = true ↔ 0 ≤ x ∧ x ≤ 5 := by
 unfold isLet; simp; omega
theorem xjm {L n : Nat} (hn : 3 ≤ n) (a x y : Int) (hL : 2 ^ 60 ≤ L) : evCall env L n 43 [.d (.int .i64 a), .d (.int .i64 x), .d (.int .i64 y)] [] = some (.d (.int .i64 (swapAlpha a x y)), []) := by
 unfold swapAlpha
 cases ha : isAlpha a with
 | false =>
  obtain ⟨n, rfl⟩ : ∃ m, n = m + 1 := ⟨n - 1, by omega⟩
  rw [x6f]
  simp only [x5k, Try.f43, SLM, simprocAttr]
  simp -implicitDefEqProofs (maxSteps := 2000000) (disch := first | assumption | (refine Shut.mk ?_; kernel_rfl) | omega | (simp only [GT]; done) | (simp only [LN] <;> omega) | fail) only [↓DN, ↓kAsg, ↓kRet, UP, simprocAttr, ↓x16, ↓x22, ↓x1f, ↓x80, ↓x45, ↓x40, ↓x14, ha, Bool.false_and]
 | true =>
  cases hx : isLet x with
  | false =>
   obtain ⟨n, rfl⟩ : ∃ m, n = m + 1 := ⟨n - 1, by omega⟩
   rw [x6f]
   simp only [x5k, Try.f43, SLM, simprocAttr]
   simp -implicitDefEqProofs (maxSteps := 2000000) (disch := first | assumption | (refine Shut.mk ?_; kernel_rfl) | omega | (simp only [GT]; done) | (simp only [LN] <;> omega) | fail) only [↓DN, ↓kAsg, ↓kRet, UP, simprocAttr, ↓x22, ↓x1f, ↓x80, ↓x45, ↓x40, ↓x14, ↓x16, ha, hx, Bool.false_and, Bool.and_false]
  | true =>
   cases hy : isLet y with
   | false =>
    obtain ⟨n, rfl⟩ : ∃ m, n = m + 1 := ⟨n - 1, by omega⟩
    rw [x6f]
    simp only [x5k, Try.f43, SLM, simprocAttr]
    simp -implicitDefEqProofs (maxSteps := 2000000) (disch := first | assumption | (refine Shut.mk ?_; kernel_rfl) | omega | (simp only [GT]; done) | (simp only [LN] <;> omega) | fail) only [↓DN, ↓kAsg, ↓kRet, UP, simprocAttr, ↓x22, ↓x1f, ↓x80, ↓x45, ↓x40, ↓x14, ↓x16, ha, hx, hy, Bool.and_false]
   | true =>
    have bx := isLet_iff.1 hx
    have by' := isLet_iff.1 hy
    obtain ⟨n, rfl⟩ : ∃ m, n = m + 1 := ⟨n - 1, by omega⟩
    rw [x6f]
    simp only [x5k, Try.f43, SLM, simprocAttr]
    simp -implicitDefEqProofs (maxSteps := 2000000) (disch := first | assumption | (refine Shut.mk ?_; kernel_rfl) | omega | (simp only [GT]; done) | (simp only [LN] <;> omega) | fail) only [↓DN, ↓kAsg, ↓kRet, UP, simprocAttr, ↓x22, ↓x1f, ↓x80, ↓x45, ↓x14, ↓x16, ha, hx, hy, Bool.and_self, ↓x40]
theorem x23 {R : Type} {L n : Nat} {hq : H} {k : A → H → Option R} (hn : 3 ≤ n) (a x y : Int) (hL : 2 ^ 60 ≤ L) : kCall env (evCall env L n) hq 43 [.d (.int .i64 a), .d (.int .i64 x), .d (.int .i64 y)] k = k (.d (.int .i64 (swapAlpha a x y))) hq :=
 kCall_still rfl (xjm hn a x y hL) rfl (.inl rfl)
theorem xek {R : Type} {L n : Nat} (hn : 1 ≤ n) {a : Int} {k : Exit → List A → H → Option R} : ∀ (j : Nat) (i : Int) (l : List Int) (len m : Nat), i + j = 6 → 0 ≤ i → j < m → len = l.length → l.length + j < 100 →
  kLoop env (evCall env L n) L 0 [0, 0, 0, 2] (U1 (Z1 (U2 (Z1 (U1 (Z8 (Z2 (Z1 ([]))))))))) (x5h 0) (Z1 (U1 (Z2 (U1 (Z1 (U8 (U2 (U1 ([]))))))))) m (.d (.int .i64 a) :: Y1 (.d .nils :: .sl 0 0 0 len :: Y1 (.d (.int .i64 i) :: Y8 (Y2 (Y1 ([])))))) [.arr (ints l) 1 0] k
  = k (.exit 0) (.d (.int .i64 a) :: Y1 (.d .nils :: .sl 0 0 0 (len + ((restL j).filter (bitAt a)).length) :: Y1 (.d (.int .i64 6) :: Y8 (Y2 (Y1 ([])))))) [.arr (ints (l ++ (restL j).filter (bitAt a))) 1 0] := by
 intro j
 induction j with
 | zero =>
  intro i l len m hi h0 hm hl hlen
  obtain ⟨m, rfl⟩ : ∃ q, m = q + 1 := ⟨m - 1, by omega⟩
  obtain rfl : i = 6 := by omega
  rw [x7r]
  simp only [x78, Try.f39, SLM, simprocAttr]
  simp -implicitDefEqProofs (maxSteps := 2000000) (disch := first | assumption | (refine Shut.mk ?_; kernel_rfl) | omega | (simp only [GT]; done) | (simp only [LN] <;> omega) | fail) only [↓DN, ↓kAsg, ↓kRet, UP, simprocAttr, ↓x5l]
  simp only [restL, List.filter_nil, List.append_nil, List.length_nil, Nat.add_zero]
 | succ j ih =>
  intro i l len m hi h0 hm hl hlen
  obtain ⟨m, rfl⟩ : ∃ q, m = q + 1 := ⟨m - 1, by omega⟩
  have hc : i < 6 := by omega
  have hr : restL (j + 1) = i :: restL j := by simp only [restL]; congr 1; omega
  rw [hr, List.filter_cons]
  cases hb : bitAt a i with
  | true =>
   rw [x7r]
   simp only [x78, Try.f39, SLM, simprocAttr]
   simp -implicitDefEqProofs (maxSteps := 2000000) (disch := first | assumption | (refine Shut.mk ?_; kernel_rfl) | omega | (simp only [GT]; done) | (simp only [LN] <;> omega) | fail) only [↓DN, ↓kAsg, ↓kRet, UP, simprocAttr, ↓x5l, ↓ih, hc, hb, h0, ints_take, ints_snoc]
   try simp only [List.append_assoc, List.cons_append, List.nil_append, Nat.add_assoc, Nat.add_comm 1]
  | false =>
   rw [x7r]
   simp only [x78, Try.f39, SLM, simprocAttr]
   simp -implicitDefEqProofs (maxSteps := 2000000) (disch := first | assumption | (refine Shut.mk ?_; kernel_rfl) | omega | (simp only [GT]; done) | (simp only [LN] <;> omega) | fail) only [↓DN, ↓kAsg, ↓kRet, UP, simprocAttr, ↓x5l, ↓ih, hc, hb, h0]
theorem xh7 {R : Type} {L n m : Nat} (hn : 1 ≤ n) {a : Int} {k : Exit → List A → H → Option R} (hm : 6 < m) :
  kLoop env (evCall env L n) L 0 [0, 0, 0, 2] (U1 (Z1 (U2 (Z1 (U1 (Z8 (Z2 (Z1 ([]))))))))) (x5h 0) (Z1 (U1 (Z2 (U1 (Z1 (U8 (U2 (U1 ([]))))))))) m (.d (.int .i64 a) :: Y1 (.d .nils :: .sl 0 0 0 0 :: Y1 (.d (.int .i64 0) :: Y8 (Y2 (Y1 ([])))))) [.arr [] 1 0] k
  = k (.exit 0) (.d (.int .i64 a) :: Y1 (.d .nils :: .sl 0 0 0 (letters a).length :: Y1 (.d (.int .i64 6) :: Y8 (Y2 (Y1 ([])))))) [.arr (ints (letters a)) 1 0] := by
 have h := xek (R := R) (L := L) hn (a := a) (k := k) 6 0 [] 0 m rfl (by omega) hm rfl (by simp)
 simp only [Nat.zero_add, List.nil_append] at h
 exact h
theorem letters_len (a : Int) : (letters a).length ≤ 6 := by
 unfold letters
 exact List.length_filter_le _ _
theorem xmk {L n : Nat} (hn : 2 ≤ n) (a : Int) (hL : 2 ^ 60 ≤ L) : evCall env L n 39 [.d (.int .i64 a)] [] = some (.d (.ivs (letters a).length (ints (letters a))), []) := by
 obtain ⟨n, rfl⟩ : ∃ m, n = m + 1 := ⟨n - 1, by omega⟩
 rw [xm6]
 simp only [xhg, Try.f39, SLM, simprocAttr]
 simp -implicitDefEqProofs (maxSteps := 2000000) (disch := first | assumption | (refine Shut.mk ?_; kernel_rfl) | omega | (simp only [GT]; done) | (simp only [LN] <;> omega) | fail) only [↓DN, ↓kAsg, ↓kRet, UP, simprocAttr, ↓x5l, ↓xek, ↓xh7, ints_length, ints_take]
theorem x3 {R : Type} {L n : Nat} {hq : H} {k : A → H → Option R} (hn : 2 ≤ n) (a : Int) (hL : 2 ^ 60 ≤ L) : kCall env (evCall env L n) hq 39 [.d (.int .i64 a)] k = k (.d (.ivs (letters a).length (ints (letters a)))) hq :=
 kCall_still rfl (xmk hn a hL) rfl (.inr rfl)
theorem drop_step {α : Type} {d : α} {l : List α} {j : Nat} {i : Int} (hi : i = (l.length : Int) - ((j + 1 : Nat) : Int)) (hj : j + 1 ≤ l.length) : l.drop (l.length - (j + 1)) = l.getD i.toNat d :: l.drop (l.length - j) := by
 have hp : i.toNat = l.length - (j + 1) := by omega
 rw [hp, List.drop_eq_getElem_cons (by omega), List.getD_eq_getElem?_getD, List.getElem?_eq_getElem (by omega)]
 congr 2
 omega
theorem getD_all {l : List Int} {P : Int → Prop} (h : ∀ v ∈ l, P v) {k : Nat} (hk : k < l.length) : P (l.getD k 0) := by
 rw [List.getD_eq_getElem?_getD, List.getElem?_eq_getElem hk]
 exact h _ (List.getElem_mem hk)
theorem letters_in {a : Int} : ∀ v ∈ letters a, 0 ≤ v ∧ v ≤ 5 := by
 intro v hv
 have := (List.mem_filter.1 hv).1
 simp at this
 omega
theorem x46 {R : Type} {L n : Nat} (hn : 2 ≤ n) {x y : Int} (hx : 0 ≤ x) (hy : 0 ≤ y) {l : List Int} (hl : ∀ v ∈ l, 0 ≤ v ∧ v ≤ 5) (hlen : l.length < 100) {k : Exit → List A → H → Option R} : ∀ (j : Nat) (i out : Int) (m : Nat), i = (l.length : Int) - (j : Int) → j ≤ l.length → j < m →
  kLoop env (evCall env L n) L 0 [] (Z1 (U2 (Z2 (Z1 (U2 (Z16 (U2 (U1 (Z8 (Z4 ([]))))))))))) (x3q 0) (U1 (Z2 (U2 (U1 (Z2 (U16 (Z2 (Z1 (U8 (U4 ([]))))))))))) m (Y1 (.d (.int .i64 x) :: .d (.int .i64 y) :: Y2 (Y1 (.d (.int .i64 0) :: .d (.int .i64 out) :: Y16 (.d (.ivs l.length (ints l)) :: .d (.int .i64 l.length) :: .d (.int .i64 i) :: Y8 (Y4 ([]))))))) [] k
  = k (.exit 0) (Y1 (.d (.int .i64 x) :: .d (.int .i64 y) :: Y2 (Y1 (.d (.int .i64 0) :: .d (.int .i64 ((l.drop (l.length - j)).foldl (orLet x y) out)) :: Y16 (.d (.ivs l.length (ints l)) :: .d (.int .i64 l.length) :: .d (.int .i64 l.length) :: Y8 (Y4 ([]))))))) [] := by
 intro j
 induction j with
 | zero =>
  intro i out m hi hj hm
  obtain ⟨m, rfl⟩ : ∃ q, m = q + 1 := ⟨m - 1, by omega⟩
  obtain rfl : i = l.length := by omega
  rw [x9o]
  simp only [x7k, Try.f37, SLM, simprocAttr]
  simp -implicitDefEqProofs (maxSteps := 2000000) (disch := first | assumption | (refine Shut.mk ?_; kernel_rfl) | omega | (simp only [GT]; done) | (simp only [LN] <;> omega) | fail) only [↓DN, ↓kAsg, ↓kRet, UP, simprocAttr, ↓x4, ↓xz, ↓x3, ↓x12, Int.lt_irrefl]
  simp only [Nat.sub_zero, List.drop_length, List.foldl_nil]
 | succ j ih =>
  intro i out m hi hj hm
  obtain ⟨m, rfl⟩ : ∃ q, m = q + 1 := ⟨m - 1, by omega⟩
  have hc : i < l.length := by omega
  have h0 : 0 ≤ i := by omega
  have hk : i.toNat < l.length := by omega
  have hv := getD_all hl hk
  have hs1 := swapI_let hv.1 hx hy
  rw [x9o]
  simp only [x7k, Try.f37, SLM, simprocAttr]
  simp -implicitDefEqProofs (maxSteps := 2000000) (disch := first | assumption | (refine Shut.mk ?_; kernel_rfl) | omega | (simp only [GT]; done) | (simp only [LN] <;> omega) | fail) only [↓DN, ↓kAsg, ↓kRet, UP, simprocAttr, ↓x4, ↓xz, ↓x3, ↓x12, ↓ih, hc, u_ints, u_int, c_int, ints_length, ints_head, bits64]
  rw [drop_step (d := 0) hi hj]
  rfl
theorem x43 {R : Type} {L n m : Nat} (hn : 2 ≤ n) {x y : Int} (hx : 0 ≤ x) (hy : 0 ≤ y) {l : List Int} (hl : ∀ v ∈ l, 0 ≤ v ∧ v ≤ 5) (hlen : l.length < 100) (hm : l.length < m) {k : Exit → List A → H → Option R} :
  kLoop env (evCall env L n) L 0 [] (Z1 (U2 (Z2 (Z1 (U2 (Z16 (U2 (U1 (Z8 (Z4 ([]))))))))))) (x3q 0) (U1 (Z2 (U2 (U1 (Z2 (U16 (Z2 (Z1 (U8 (U4 ([]))))))))))) m (Y1 (.d (.int .i64 x) :: .d (.int .i64 y) :: Y2 (Y1 (.d (.int .i64 0) :: .d (.int .i64 0) :: Y16 (.d (.ivs l.length (ints l)) :: .d (.int .i64 l.length) :: .d (.int .i64 0) :: Y8 (Y4 ([]))))))) [] k
  = k (.exit 0) (Y1 (.d (.int .i64 x) :: .d (.int .i64 y) :: Y2 (Y1 (.d (.int .i64 0) :: .d (.int .i64 (l.foldl (orLet x y) 0)) :: Y16 (.d (.ivs l.length (ints l)) :: .d (.int .i64 l.length) :: .d (.int .i64 l.length) :: Y8 (Y4 ([]))))))) [] := by
 have h := x46 (R := R) (L := L) hn hx hy hl hlen (k := k) l.length 0 0 m (by omega) (Nat.le_refl _) hm
 simpa only [Nat.sub_self, List.drop_zero] using h
theorem xjr {L n : Nat} (hn : 3 ≤ n) (a x y : Int) (hL : 2 ^ 60 ≤ L) : evCall env L n 37 [.d (.int .i64 a), .d (.int .i64 x), .d (.int .i64 y)] [] = some (.d (.int .i64 (swapAlpha a x y)), []) := by
 unfold swapAlpha
 cases ha : isAlpha a with
 | false =>
  obtain ⟨n, rfl⟩ : ∃ m, n = m + 1 := ⟨n - 1, by omega⟩
  rw [x6c]
  simp only [x5j, Try.f37, SLM, simprocAttr]
  simp -implicitDefEqProofs (maxSteps := 2000000) (disch := first | assumption | (refine Shut.mk ?_; kernel_rfl) | omega | (simp only [GT]; done) | (simp only [LN] <;> omega) | fail) only [↓DN, ↓kAsg, ↓kRet, UP, simprocAttr, ↓xz, ↓x3, ↓x12, ↓x46, ↓x43, ↓x4, ha, Bool.false_and]
 | true =>
  cases hx : isLet x with
  | false =>
   obtain ⟨n, rfl⟩ : ∃ m, n = m + 1 := ⟨n - 1, by omega⟩
   rw [x6c]
   simp only [x5j, Try.f37, SLM, simprocAttr]
   simp -implicitDefEqProofs (maxSteps := 2000000) (disch := first | assumption | (refine Shut.mk ?_; kernel_rfl) | omega | (simp only [GT]; done) | (simp only [LN] <;> omega) | fail) only [↓DN, ↓kAsg, ↓kRet, UP, simprocAttr, ↓x3, ↓x12, ↓x46, ↓x43, ↓x4, ↓xz, ha, hx, Bool.false_and, Bool.and_false]
  | true =>
   cases hy : isLet y with
   | false =>
    obtain ⟨n, rfl⟩ : ∃ m, n = m + 1 := ⟨n - 1, by omega⟩
    rw [x6c]
    simp only [x5j, Try.f37, SLM, simprocAttr]
    simp -implicitDefEqProofs (maxSteps := 2000000) (disch := first | assumption | (refine Shut.mk ?_; kernel_rfl) | omega | (simp only [GT]; done) | (simp only [LN] <;> omega) | fail) only [↓DN, ↓kAsg, ↓kRet, UP, simprocAttr, ↓x3, ↓x12, ↓x46, ↓x43, ↓x4, ↓xz, ha, hx, hy, Bool.and_false]
   | true =>
    have bx := isLet_iff.1 hx
    have by' := isLet_iff.1 hy
    have hin := letters_in (a := a)
    have hll := letters_len a
    obtain ⟨n, rfl⟩ : ∃ m, n = m + 1 := ⟨n - 1, by omega⟩
    rw [x6c]
    simp only [x5j, Try.f37, SLM, simprocAttr]
    simp -implicitDefEqProofs (maxSteps := 2000000) (disch := first | assumption | (refine Shut.mk ?_; kernel_rfl) | omega | (simp only [GT]; done) | (simp only [LN] <;> omega) | fail) only [↓DN, ↓kAsg, ↓kRet, UP, simprocAttr, ↓x12, ↓x46, ↓x4, ↓xz, ↓x3, ha, hx, hy, Bool.and_self, u_ints, ↓x43]
theorem x24 {R : Type} {L n : Nat} {hq : H} {k : A → H → Option R} (hn : 3 ≤ n) (a x y : Int) (hL : 2 ^ 60 ≤ L) : kCall env (evCall env L n) hq 37 [.d (.int .i64 a), .d (.int .i64 x), .d (.int .i64 y)] k = k (.d (.int .i64 (swapAlpha a x y))) hq :=
 kCall_still rfl (xjr hn a x y hL) rfl (.inl rfl)
end Ev
end Go.Proofs.Ytppdfjdfjfoddaa
end

/-!
  Edges, systems: how they lie; comparing edges; validity.
-/
section
set_option linter.unusedSimpArgs false
set_option linter.unusedVariables false
set_option maxRecDepth 8000
set_option pp.maxSteps 6000
set_option maxHeartbeats 4000000
namespace Go.Proofs.Ytppdfjdfjfoddaa
namespace Ev
structure Edge where
 fr : Int
 lt : Int
 to : Int
 deriving DecidableEq, Inhabited
theorem drop_go {α : Type} {l : List α} {i : Nat} {d : α} (h : i < l.length) : l.drop i = l.getD i d :: l.drop (i + 1) := by
 rw [List.drop_eq_getElem_cons h, List.getD_eq_getElem?_getD, List.getElem?_eq_getElem h]
 rfl
def seek (p : Nat → Bool) : Nat → Nat → Option Nat
 | 0, _ => none
 | j + 1, i => if p i = true then some i else seek p j (i + 1)
theorem seek_none {p : Nat → Bool} : ∀ {j i : Nat}, seek p j i = none ↔ ∀ k, i ≤ k → k < i + j → p k = false
 | 0, i => by simp only [seek, true_iff]; intro k h1 h2; omega
 | j + 1, i => by
  simp only [seek]
  by_cases hp : p i = true
  ·rw [if_pos hp]
   simp only [false_iff, reduceCtorEq]
   intro h
   have := h i (Nat.le_refl _) (by omega)
   rw [hp] at this; cases this
  ·rw [if_neg hp, seek_none]
   constructor
   ·intro h k h1 h2
    by_cases e : k = i
    ·subst e; simpa using hp
    ·exact h k (by omega) (by omega)
   ·intro h k h1 h2; exact h k (by omega) (by omega)
theorem seek_pos {p : Nat → Bool} {j i : Nat} (h : p i = true) : seek p (j + 1) i = some i := by simp [seek, h]
theorem seek_neg {p : Nat → Bool} {j i : Nat} (h : p i = false) : seek p (j + 1) i = seek p j (i + 1) := by simp [seek, h]
structure Sys where
 al : Int
 st : Int
 es : List Edge
 deriving DecidableEq, Inhabited
end Ev
end Go.Proofs.Ytppdfjdfjfoddaa
end

/-!
  The exact laws' own functions, at edges and systems: copies, comparisons, marks.
-/
section
set_option linter.unusedSimpArgs false
set_option linter.unusedVariables false
set_option maxRecDepth 8000
set_option pp.maxSteps 6000
set_option maxHeartbeats 4000000
namespace Go.Proofs.Ytppdfjdfjfoddaa
namespace Ev
theorem kCall_ref {R : Type} {E : Env} {call : CallF} {h : H} {f : FuncId} {args : List A} {r : A} {k : A → H → Option R} {id e g e2 g2 : Nat} {cs cs2 : List D} (hi : h[id]? = some (.arr cs e g)) (hid : idsL args = [id]) (hm : (E.hint f).mode = 0) (hr : idsA r = []) (he : call f (mapAs (place [id]) args) [.arr cs e g] = some (r, [.arr cs2 e2 g2])) :
  kCall E call h f args k = k r (h.set id (.arr cs2 e2 g2)) := by
 have hre : reach fuelR h [id] [] = [id] := by
  have e1 : reach fuelR h [id] [] = match h[id]? with
   | some (.box cs) => reach (fuelR - 1) h ([] ++ idsL cs) ([] ++ [id])
   | some (.vec cs _ _) => reach (fuelR - 1) h ([] ++ idsL cs) ([] ++ [id])
   | some .void => reach (fuelR - 1) h [] []
   | some _ => reach (fuelR - 1) h [] ([] ++ [id])
   | none => reach (fuelR - 1) h [] [] := rfl
  rw [e1, hi]; rfl
 have hpk : pack h [id] = [.arr cs e g] := by
  simp only [pack, List.map_cons, List.map_nil, List.getD_eq_getElem?_getD, hi]; rfl
 unfold kCall
 rw [hid, hre, hpk]
 have hc : aCall call E.hint [.arr cs e g] f (mapAs (place [id]) args) = some (r, [.arr cs2 e2 g2]) := by
  unfold aCall; rw [hm]; exact he
 rw [hc]
 have hcl : closed h [id] [id] = true := by
  simp only [closed, List.all_cons, List.all_nil, hi]; simp
 simp only [List.length_cons, List.length_nil, Nat.le_refl, hcl, and_self, if_true, mapA_none r hr]
 simp only [putBack, mapO, List.map_nil, List.append_nil]
end Ev
end Go.Proofs.Ytppdfjdfjfoddaa
end

/-!
  The exact laws' own functions, at rows of numbers and at automata: copies.
-/
section
set_option linter.unusedSimpArgs false
set_option linter.unusedVariables false
set_option maxRecDepth 8000
set_option pp.maxSteps 6000
set_option maxHeartbeats 4000000
namespace Go.Proofs.Ytppdfjdfjfoddaa
namespace Ev
structure Aut where
 al : Int
 nx : List (List Int)
 ac : List Bool
 deriving DecidableEq, Inhabited
def rowD (r : List Int) : D := .ivs r.length (ints r)
def rowsD (rs : List (List Int)) : List D := rs.map rowD
def bools (l : List Bool) : List D := l.map .bool
theorem rowsD_length {l : List (List Int)} : (rowsD l).length = l.length := by simp [rowsD]
theorem bools_length {l : List Bool} : (bools l).length = l.length := by simp [bools]
theorem bools_take {l : List Bool} {k : Nat} (h : l.length ≤ k) : (bools l).take k = bools l := List.take_of_length_le (by rw [bools_length]; exact h)
theorem bools_head {l : List Bool} {k : Nat} (h : k < l.length) : (((bools l).drop k).map A.d).head? = some (.d (.bool (l.getD k false))) := by
 rw [List.head?_map, List.head?_drop, bools, List.getElem?_map, List.getD_eq_getElem?_getD, List.getElem?_eq_getElem h]
 rfl
theorem bools_set {l : List Bool} {k : Nat} {v : Bool} (h : k < l.length) : setRun (bools l) k [.bool v] = bools (l.set k v) := setRun_map _ l k v h
theorem rows_head {l : List (List Int)} {k : Nat} (h : k < l.length) : (((rowsD l).drop k).map A.d).head? = some (.d (.ivs (l.getD k []).length (ints (l.getD k [])))) := by
 rw [List.head?_map, List.head?_drop, rowsD, List.getElem?_map, List.getD_eq_getElem?_getD, List.getElem?_eq_getElem h]
 rfl
theorem rows_take {l : List (List Int)} {k : Nat} (h : l.length ≤ k) : (rowsD l).take k = rowsD l := List.take_of_length_le (by rw [rowsD_length]; exact h)
theorem LA : type_of% (And.intro @rowsD_length (And.intro @bools_length (And.intro @bools_take (And.intro @bools_head (And.intro @rows_head @rows_take))))) := And.intro @rowsD_length (And.intro @bools_length (And.intro @bools_take (And.intro @bools_head (And.intro @rows_head @rows_take))))
theorem u_intss : env.P.underlying 23 = some (.slice 60) := by kernel_rfl
theorem c_ints : env.P.cellsOf 60 = 1 := by kernel_rfl
theorem rowsO_snocI (rs : List (List Int)) (r : List Int) : rowsO rs ++ [.arr (ints r) 1 0] = rowsO (rs ++ [r]) := rowsO_snoc rs r
def rowsShort (rs : List (List Int)) : Prop := rs.length ≤ 4294967296 ∧ ∀ r ∈ rs, r.length ≤ 4294967296
theorem short_at {rs : List (List Int)} (h : rowsShort rs) {k : Nat} (hk : k < rs.length) : (rs.getD k []).length ≤ 4294967296 := by
 rw [List.getD_eq_getElem?_getD, List.getElem?_eq_getElem hk]
 exact h.2 _ (List.getElem_mem hk)
theorem u_bools : env.P.underlying 24 = some (.slice 4) := by kernel_rfl
end Ev
end Go.Proofs.Ytppdfjdfjfoddaa
end
