/-
  Letters and alphabets: what the small functions give.
-/
import Derived.Test.YtppdfjdfjfoddaaLib
section
set_option linter.unusedSimpArgs false
set_option maxRecDepth 8000
namespace Go.Proofs.Ytppdfjdfjfoddaa
namespace Ev
def isAlpha (x : Int) : Bool := decide (0 ≤ x ∧ x ≤ 63)
theorem xqu {L n : Nat} (hn : 1 ≤ n) (a : Int) : evCall env L n 79 [.d (.int .i64 a)] [] = some (.d (.bool (isAlpha a)), []) := by
 obtain ⟨n, rfl⟩ : ∃ m, n = m + 1 := ⟨n - 1, by omega⟩
 rw [xqs]
 simp only [xjp, Try.f79, SLM, simprocAttr]
 simp -implicitDefEqProofs (maxSteps := 2000000) (disch := first | assumption | (refine Shut.mk ?_; kernel_rfl) | omega | (simp only [GT]; done) | (simp only [LN] <;> omega) | fail) only [↓DN, ↓kAsg, ↓kRet, UP, simprocAttr]
 by_cases h : 0 ≤ a <;> simp [h, isAlpha]
theorem x30 {R : Type} {L n : Nat} {hq : H} {k : A → H → Option R} (hn : 1 ≤ n) (a : Int) : kCall env (evCall env L n) hq 79 [.d (.int .i64 a)] k = k (.d (.bool (isAlpha a))) hq :=
 kCall_still rfl (xqu hn a) rfl (.inl rfl)
theorem xr6 {L n : Nat} (hn : 1 ≤ n) (a : Int) : evCall env L n 49 [.d (.int .i64 a)] [] = some (.d (.bool (isAlpha a)), []) := by
 obtain ⟨n, rfl⟩ : ∃ m, n = m + 1 := ⟨n - 1, by omega⟩
 rw [xrb]
 simp only [xkh, Try.f49, SLM, simprocAttr]
 simp -implicitDefEqProofs (maxSteps := 2000000) (disch := first | assumption | (refine Shut.mk ?_; kernel_rfl) | omega | (simp only [GT]; done) | (simp only [LN] <;> omega) | fail) only [↓DN, ↓kAsg, ↓kRet, UP, simprocAttr]
 by_cases h : 0 ≤ a <;> simp [h, isAlpha]
theorem x1c {R : Type} {L n : Nat} {hq : H} {k : A → H → Option R} (hn : 1 ≤ n) (a : Int) : kCall env (evCall env L n) hq 49 [.d (.int .i64 a)] k = k (.d (.bool (isAlpha a))) hq :=
 kCall_still rfl (xr6 hn a) rfl (.inl rfl)
def bitAt (a i : Int) : Bool := decide ((a.fdiv (2 ^ (min i.toNat 64))) % 2 = 1)
theorem toNat_ofInt (x : Int) : ((BitVec.ofInt 64 x).toNat : Int) = x % 18446744073709551616 := by
 rw [BitVec.toNat_ofInt]
 omega
theorem iAnd_one (x : Int) : iAnd .i64 x 1 = x % 2 := by
 unfold iAnd
 have h1 : (BitVec.ofInt IntKind.i64.bits x &&& BitVec.ofInt IntKind.i64.bits 1).toNat = (BitVec.ofInt 64 x).toNat % 2 := by
  change (BitVec.ofInt 64 x &&& BitVec.ofInt 64 1).toNat = _
  rw [BitVec.toNat_and]
  exact Nat.and_one_is_mod _
 rw [h1]
 have h2 := toNat_ofInt x
 rw [i64_id (by omega) (by omega)]
 omega
theorem bits64 : IntKind.i64.bits = 64 := rfl
theorem xva {L n : Nat} (hn : 1 ≤ n) (a i : Int) (hi : 0 ≤ i) (hi2 : i ≤ 9223372036854775807) : evCall env L n 81 [.d (.int .i64 a), .d (.int .i64 i)] [] = some (.d (.bool (bitAt a i)), []) := by
 obtain ⟨n, rfl⟩ : ∃ m, n = m + 1 := ⟨n - 1, by omega⟩
 rw [xvi]
 simp only [xt2, Try.f81, SLM, simprocAttr]
 simp -implicitDefEqProofs (maxSteps := 2000000) (disch := first | assumption | (refine Shut.mk ?_; kernel_rfl) | omega | (simp only [GT]; done) | (simp only [LN] <;> omega) | fail) only [↓DN, ↓kAsg, ↓kRet, UP, simprocAttr, ↓conv_int_uint, u64_id, iAnd_one, bits64]
 rfl
theorem x4a {R : Type} {L n : Nat} {hq : H} {k : A → H → Option R} (hn : 1 ≤ n) (a i : Int) (hi : 0 ≤ i) (hi2 : i ≤ 9223372036854775807) : kCall env (evCall env L n) hq 81 [.d (.int .i64 a), .d (.int .i64 i)] k = k (.d (.bool (bitAt a i))) hq :=
 kCall_still rfl (xva hn a i hi hi2) rfl (.inl rfl)
theorem xwc {L n : Nat} (hn : 1 ≤ n) (a i : Int) : evCall env L n 68 [.d (.int .i64 a), .d (.int .i64 i)] [] = some (.d (.bool (decide (0 ≤ i) && bitAt a i)), []) := by
 obtain ⟨n, rfl⟩ : ∃ m, n = m + 1 := ⟨n - 1, by omega⟩
 rw [xwe]
 simp only [xv3, Try.f68, SLM, simprocAttr]
 simp -implicitDefEqProofs (maxSteps := 2000000) (disch := first | assumption | (refine Shut.mk ?_; kernel_rfl) | omega | (simp only [GT]; done) | (simp only [LN] <;> omega) | fail) only [↓DN, ↓kAsg, ↓kRet, UP, simprocAttr, iAnd_one, bits64]
 by_cases h : 0 ≤ i <;> simp [h, bitAt]
theorem xkr {R : Type} {L n : Nat} {hq : H} {k : A → H → Option R} (hn : 1 ≤ n) (a i : Int) : kCall env (evCall env L n) hq 68 [.d (.int .i64 a), .d (.int .i64 i)] k = k (.d (.bool (decide (0 ≤ i) && bitAt a i))) hq :=
 kCall_still rfl (xwc hn a i) rfl (.inl rfl)
def letters (a : Int) : List Int := [0, 1, 2, 3, 4, 5].filter (bitAt a)
def restL : Nat → List Int
 | 0 => []
 | j + 1 => (6 - ((j + 1 : Nat) : Int)) :: restL j
theorem xha {R : Type} {L n : Nat} (hn : 1 ≤ n) {a : Int} {k : Exit → List A → H → Option R} : ∀ (j : Nat) (i : Int) (l : List Int) (len m : Nat), i + j = 6 → 0 ≤ i → j < m → len = l.length → l.length + j < 100 →
  kLoop env (evCall env L n) L 0 [0, 0, 0, 2] (U1 (Z1 (U2 (Z1 (U1 (Z8 (Z2 (Z1 ([]))))))))) (x5q 0) (Z1 (U1 (Z2 (U1 (Z1 (U8 (U2 (U1 ([]))))))))) m (.d (.int .i64 a) :: Y1 (.d .nils :: .sl 0 0 0 len :: Y1 (.d (.int .i64 i) :: Y8 (Y2 (Y1 ([])))))) [.arr (ints l) 1 0] k
  = k (.exit 0) (.d (.int .i64 a) :: Y1 (.d .nils :: .sl 0 0 0 (len + ((restL j).filter (bitAt a)).length) :: Y1 (.d (.int .i64 6) :: Y8 (Y2 (Y1 ([])))))) [.arr (ints (l ++ (restL j).filter (bitAt a))) 1 0] := by
 intro j
 induction j with
 | zero =>
  intro i l len m hi h0 hm hl hlen
  obtain ⟨m, rfl⟩ : ∃ q, m = q + 1 := ⟨m - 1, by omega⟩
  obtain rfl : i = 6 := by omega
  rw [x8i]
  simp only [x7u, Try.f39, SLM, simprocAttr]
  simp -implicitDefEqProofs (maxSteps := 2000000) (disch := first | assumption | (refine Shut.mk ?_; kernel_rfl) | omega | (simp only [GT]; done) | (simp only [LN] <;> omega) | fail) only [↓DN, ↓kAsg, ↓kRet, UP, simprocAttr, ↓xkr]
  simp only [restL, List.filter_nil, List.append_nil, List.length_nil, Nat.add_zero]
 | succ j ih =>
  intro i l len m hi h0 hm hl hlen
  obtain ⟨m, rfl⟩ : ∃ q, m = q + 1 := ⟨m - 1, by omega⟩
  have hc : i < 6 := by omega
  have hr : restL (j + 1) = i :: restL j := by simp only [restL]; congr 1; omega
  rw [hr, List.filter_cons]
  cases hb : bitAt a i with
  | true =>
   rw [x8i]
   simp only [x7u, Try.f39, SLM, simprocAttr]
   simp -implicitDefEqProofs (maxSteps := 2000000) (disch := first | assumption | (refine Shut.mk ?_; kernel_rfl) | omega | (simp only [GT]; done) | (simp only [LN] <;> omega) | fail) only [↓DN, ↓kAsg, ↓kRet, UP, simprocAttr, ↓xkr, ↓ih, hc, hb, h0, ints_take, ints_snoc]
   try simp only [List.append_assoc, List.cons_append, List.nil_append, Nat.add_assoc, Nat.add_comm 1]
  | false =>
   rw [x8i]
   simp only [x7u, Try.f39, SLM, simprocAttr]
   simp -implicitDefEqProofs (maxSteps := 2000000) (disch := first | assumption | (refine Shut.mk ?_; kernel_rfl) | omega | (simp only [GT]; done) | (simp only [LN] <;> omega) | fail) only [↓DN, ↓kAsg, ↓kRet, UP, simprocAttr, ↓xkr, ↓ih, hc, hb, h0]
theorem xkv {R : Type} {L n m : Nat} (hn : 1 ≤ n) {a : Int} {k : Exit → List A → H → Option R} (hm : 6 < m) :
  kLoop env (evCall env L n) L 0 [0, 0, 0, 2] (U1 (Z1 (U2 (Z1 (U1 (Z8 (Z2 (Z1 ([]))))))))) (x5q 0) (Z1 (U1 (Z2 (U1 (Z1 (U8 (U2 (U1 ([]))))))))) m (.d (.int .i64 a) :: Y1 (.d .nils :: .sl 0 0 0 0 :: Y1 (.d (.int .i64 0) :: Y8 (Y2 (Y1 ([])))))) [.arr [] 1 0] k
  = k (.exit 0) (.d (.int .i64 a) :: Y1 (.d .nils :: .sl 0 0 0 (letters a).length :: Y1 (.d (.int .i64 6) :: Y8 (Y2 (Y1 ([])))))) [.arr (ints (letters a)) 1 0] := by
 have h := xha (R := R) (L := L) hn (a := a) (k := k) 6 0 [] 0 m rfl (by omega) hm rfl (by simp)
 simp only [Nat.zero_add, List.nil_append] at h
 exact h
theorem letters_len (a : Int) : (letters a).length ≤ 6 := by
 unfold letters
 exact List.length_filter_le _ _
theorem xs0 {L n : Nat} (hn : 2 ≤ n) (a : Int) (hL : 2 ^ 60 ≤ L) : evCall env L n 39 [.d (.int .i64 a)] [] = some (.d (.ivs (letters a).length (ints (letters a))), []) := by
 obtain ⟨n, rfl⟩ : ∃ m, n = m + 1 := ⟨n - 1, by omega⟩
 rw [xs3]
 simp only [xlb, Try.f39, SLM, simprocAttr]
 simp -implicitDefEqProofs (maxSteps := 2000000) (disch := first | assumption | (refine Shut.mk ?_; kernel_rfl) | omega | (simp only [GT]; done) | (simp only [LN] <;> omega) | fail) only [↓DN, ↓kAsg, ↓kRet, UP, simprocAttr, ↓xkr, ↓xha, ↓xkv, ints_length, ints_take]
theorem x7 {R : Type} {L n : Nat} {hq : H} {k : A → H → Option R} (hn : 2 ≤ n) (a : Int) (hL : 2 ^ 60 ≤ L) : kCall env (evCall env L n) hq 39 [.d (.int .i64 a)] k = k (.d (.ivs (letters a).length (ints (letters a)))) hq :=
 kCall_still rfl (xs0 hn a hL) rfl (.inr rfl)
theorem getD_all {l : List Int} {P : Int → Prop} (h : ∀ v ∈ l, P v) {k : Nat} (hk : k < l.length) : P (l.getD k 0) := by
 rw [List.getD_eq_getElem?_getD, List.getElem?_eq_getElem hk]
 exact h _ (List.getElem_mem hk)
theorem letters_in {a : Int} : ∀ v ∈ letters a, 0 ≤ v ∧ v ≤ 5 := by
 intro v hv
 have := (List.mem_filter.1 hv).1
 simp at this
 omega
end Ev
end Go.Proofs.Ytppdfjdfjfoddaa
end

/-!
  Edges, systems: how they lie; comparing edges; validity.
-/
section
set_option linter.unusedSimpArgs false
set_option linter.unusedVariables false
set_option maxRecDepth 8000
set_option pp.maxSteps 6000
set_option maxHeartbeats 4000000
namespace Go.Proofs.Ytppdfjdfjfoddaa
namespace Ev
structure Edge where
 fr : Int
 lt : Int
 to : Int
 deriving DecidableEq, Inhabited
def edgeC (e : Edge) : List D := [.int .i64 e.fr, .int .i64 e.lt, .int .i64 e.to]
def edgesD (l : List Edge) : List D := (l.map edgeC).flatten
theorem drop_go {α : Type} {l : List α} {i : Nat} {d : α} (h : i < l.length) : l.drop i = l.getD i d :: l.drop (i + 1) := by
 rw [List.drop_eq_getElem_cons h, List.getD_eq_getElem?_getD, List.getElem?_eq_getElem h]
 rfl
def seek (p : Nat → Bool) : Nat → Nat → Option Nat
 | 0, _ => none
 | j + 1, i => if p i = true then some i else seek p j (i + 1)
theorem seek_none {p : Nat → Bool} : ∀ {j i : Nat}, seek p j i = none ↔ ∀ k, i ≤ k → k < i + j → p k = false
 | 0, i => by simp only [seek, true_iff]; intro k h1 h2; omega
 | j + 1, i => by
  simp only [seek]
  by_cases hp : p i = true
  ·rw [if_pos hp]
   simp only [false_iff, reduceCtorEq]
   intro h
   have := h i (Nat.le_refl _) (by omega)
   rw [hp] at this; cases this
  ·rw [if_neg hp, seek_none]
   constructor
   ·intro h k h1 h2
    by_cases e : k = i
    ·subst e; simpa using hp
    ·exact h k (by omega) (by omega)
   ·intro h k h1 h2; exact h k (by omega) (by omega)
theorem seek_some {p : Nat → Bool} : ∀ {j i r : Nat}, seek p j i = some r → i ≤ r ∧ r < i + j ∧ p r = true ∧ ∀ k, i ≤ k → k < r → p k = false
 | 0, i, r, h => by simp [seek] at h
 | j + 1, i, r, h => by
  simp only [seek] at h
  by_cases hp : p i = true
  ·rw [if_pos hp] at h
   cases h
   exact ⟨Nat.le_refl _, by omega, hp, fun k h1 h2 => by omega⟩
  ·rw [if_neg hp] at h
   obtain ⟨h1, h2, h3, h4⟩ := seek_some h
   refine ⟨by omega, by omega, h3, fun k k1 k2 => ?_⟩
   by_cases e : k = i
   ·subst e; simpa using hp
   ·exact h4 k (by omega) k2
theorem seek_pos {p : Nat → Bool} {j i : Nat} (h : p i = true) : seek p (j + 1) i = some i := by simp [seek, h]
theorem seek_neg {p : Nat → Bool} {j i : Nat} (h : p i = false) : seek p (j + 1) i = seek p j (i + 1) := by simp [seek, h]
structure Sys where
 al : Int
 st : Int
 es : List Edge
 deriving DecidableEq, Inhabited
end Ev
end Go.Proofs.Ytppdfjdfjfoddaa
end
