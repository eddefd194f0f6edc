/-
  Alphabets as sets of letters; alphabets of words, restrictions.
-/
import Derived.Test.YtppdfjdfjfoddaaDraw2
set_option linter.unusedSimpArgs false
set_option linter.unusedVariables false
set_option maxRecDepth 8000
set_option maxHeartbeats 4000000
set_option pp.maxSteps 6000
namespace Go.Proofs.Ytppdfjdfjfoddaa
namespace Ev
theorem bits_or : ∀ (a : Fin 64) (l m : Fin 6), bitAt (iOr .i64 (a.val : Int) (bitI (l.val : Int))) (m.val : Int) = (bitAt (a.val : Int) (m.val : Int) || decide (m.val = l.val)) := by decide +kernel
theorem or_range : ∀ (a : Fin 64) (l : Fin 6), 0 ≤ iOr .i64 (a.val : Int) (bitI (l.val : Int)) ∧ iOr .i64 (a.val : Int) (bitI (l.val : Int)) ≤ 63 := by decide +kernel
theorem bits_ext : ∀ (a b : Fin 64), (∀ m : Fin 6, bitAt (a.val : Int) (m.val : Int) = bitAt (b.val : Int) (m.val : Int)) → a.val = b.val := by decide +kernel
theorem bit_or {a l m : Int} (ha : isAlpha a = true) (hl : isLet l = true) (hm : isLet m = true) : bitAt (iOr .i64 a (bitI l)) m = (bitAt a m || decide (m = l)) := by
 unfold isAlpha at ha; simp only [decide_eq_true_eq] at ha
 have hl := isLet_iff.1 hl
 have hm := isLet_iff.1 hm
 have h := bits_or ⟨a.toNat, by omega⟩ ⟨l.toNat, by omega⟩ ⟨m.toNat, by omega⟩
 simp only [Int.toNat_of_nonneg ha.1, Int.toNat_of_nonneg hl.1, Int.toNat_of_nonneg hm.1] at h
 rw [h]
 congr 1
 have : (m.toNat = l.toNat) ↔ m = l := by omega
 simp only [this]
theorem or_alpha {a l : Int} (ha : isAlpha a = true) (hl : isLet l = true) : isAlpha (iOr .i64 a (bitI l)) = true := by
 unfold isAlpha at ha ⊢; simp only [decide_eq_true_eq] at ha ⊢
 have hl := isLet_iff.1 hl
 have h := or_range ⟨a.toNat, by omega⟩ ⟨l.toNat, by omega⟩
 simpa only [Int.toNat_of_nonneg ha.1, Int.toNat_of_nonneg hl.1] using h
theorem alpha_ext {a b : Int} (ha : isAlpha a = true) (hb : isAlpha b = true) (h : ∀ m : Int, isLet m = true → bitAt a m = bitAt b m) : a = b := by
 unfold isAlpha at ha hb; simp only [decide_eq_true_eq] at ha hb
 have := bits_ext ⟨a.toNat, by omega⟩ ⟨b.toNat, by omega⟩ (fun m => by
  simp only [Int.toNat_of_nonneg ha.1, Int.toNat_of_nonneg hb.1]
  exact h m.val (isLet_iff.2 (by have := m.isLt; omega)))
 simp only at this
 omega
def orAll (ls : List Int) : Int := ls.foldl (fun o l => iOr .i64 o (bitI l)) 0
theorem orAll_from {ls : List Int} : ∀ {a : Int}, isAlpha a = true → (∀ l ∈ ls, isLet l = true) → isAlpha (ls.foldl (fun o l => iOr .i64 o (bitI l)) a) = true ∧ ∀ m, isLet m = true → bitAt (ls.foldl (fun o l => iOr .i64 o (bitI l)) a) m = (bitAt a m || ls.any (fun l => decide (m = l))) := by
 induction ls with
 | nil => intro a ha _; exact ⟨ha, fun m _ => by simp⟩
 | cons l ls ih =>
  intro a ha hl
  have h1 := or_alpha ha (hl l (by simp))
  obtain ⟨h2, h3⟩ := ih h1 (fun x hx => hl x (by simp [hx]))
  refine ⟨h2, fun m hm => ?_⟩
  rw [List.foldl_cons, h3 m hm, bit_or ha (hl l (by simp)) hm, List.any_cons, Bool.or_assoc]
theorem bit_zero : ∀ m : Int, isLet m = true → bitAt 0 m = false := by
 intro m _; unfold bitAt; simp
theorem orAll_alpha {ls : List Int} (h : ∀ l ∈ ls, isLet l = true) : isAlpha (orAll ls) = true := (orAll_from (a := 0) rfl h).1
theorem orAll_bit {ls : List Int} (h : ∀ l ∈ ls, isLet l = true) {m : Int} (hm : isLet m = true) : bitAt (orAll ls) m = ls.any (fun l => decide (m = l)) := by
 have := (orAll_from (a := 0) rfl h).2 m hm
 rw [bit_zero m hm, Bool.false_or] at this
 exact this
theorem let_in {m : Int} (h : isLet m = true) : m ∈ [0, 1, 2, 3, 4, (5 : Int)] := by
 have := isLet_iff.1 h
 simp; omega
theorem in_letters {a m : Int} : m ∈ letters a ↔ isLet m = true ∧ bitAt a m = true := by
 unfold letters
 rw [List.mem_filter]
 constructor
 ·rintro ⟨h1, h2⟩
  refine ⟨isLet_iff.2 ?_, h2⟩
  simp at h1; omega
 ·rintro ⟨h1, h2⟩
  exact ⟨let_in h1, h2⟩
theorem swapI_isLet {l x y : Int} (hl : isLet l = true) (hx : isLet x = true) (hy : isLet y = true) : isLet (swapI l x y) = true := by
 have h1 := isLet_iff.1 hl
 have h2 := isLet_iff.1 hx
 have h3 := isLet_iff.1 hy
 exact isLet_iff.2 ⟨swapI_let h1.1 h2.1 h3.1, swapI_le h1.2 h2.2 h3.2⟩
theorem swapI_twice {l x y : Int} : swapI (swapI l x y) x y = l := by
 unfold swapI
 by_cases h1 : l = x
 ·by_cases h2 : y = x <;> simp [h1, h2]
 ·by_cases h2 : l = y
  ·simp [h1, h2]
  ·simp [h1, h2]
theorem swapAlpha_orAll {a x y : Int} (ha : isAlpha a = true) (hx : isLet x = true) (hy : isLet y = true) : swapAlpha a x y = orAll ((letters a).map fun l => swapI l x y) := by
 unfold swapAlpha orAll
 simp only [ha, hx, hy, Bool.and_self, if_true, List.foldl_map]
 rfl
theorem swaps_let {a x y : Int} (hx : isLet x = true) (hy : isLet y = true) : ∀ l ∈ (letters a).map fun l => swapI l x y, isLet l = true := by
 intro l hl
 obtain ⟨k, hk, rfl⟩ := List.mem_map.1 hl
 exact swapI_isLet (in_letters.1 hk).1 hx hy
theorem swapAlpha_alpha {a x y : Int} (ha : isAlpha a = true) (hx : isLet x = true) (hy : isLet y = true) : isAlpha (swapAlpha a x y) = true := by
 rw [swapAlpha_orAll ha hx hy]; exact orAll_alpha (swaps_let hx hy)
theorem swapAlpha_bit {a x y m : Int} (ha : isAlpha a = true) (hx : isLet x = true) (hy : isLet y = true) (hm : isLet m = true) : bitAt (swapAlpha a x y) m = bitAt a (swapI m x y) := by
 rw [swapAlpha_orAll ha hx hy, orAll_bit (swaps_let hx hy) hm, Bool.eq_iff_iff, List.any_eq_true]
 constructor
 ·rintro ⟨l, hl, hd⟩
  obtain ⟨k, hk, rfl⟩ := List.mem_map.1 hl
  simp only [decide_eq_true_eq] at hd
  rw [hd, swapI_twice]
  exact (in_letters.1 hk).2
 ·intro hb
  exact ⟨m, List.mem_map.2 ⟨swapI m x y, in_letters.2 ⟨swapI_isLet hm hx hy, hb⟩, swapI_twice⟩, by simp⟩
theorem swapAlpha_twice {a x y : Int} (ha : isAlpha a = true) (hx : isLet x = true) (hy : isLet y = true) : swapAlpha (swapAlpha a x y) x y = a := by
 have h1 := swapAlpha_alpha ha hx hy
 refine alpha_ext (swapAlpha_alpha h1 hx hy) ha fun m hm => ?_
 rw [swapAlpha_bit h1 hx hy hm, swapAlpha_bit ha hx hy (swapI_isLet hm hx hy), swapI_twice]
end Ev
end Go.Proofs.Ytppdfjdfjfoddaa
