/-
  Alphabets as sets of aB; alphabets of words, restrictions.
-/
import Derived.Test.YtejmccgfigiadaaGreatLett
set_option linter.unusedSimpArgs false
set_option linter.unusedVariables false
set_option maxRecDepth 8000
set_option maxHeartbeats 4000000
namespace Go.Proofs.YtejmccgfigiadaaGreat
namespace Ev
theorem aZF:∀ (a:Fin 64) (l m:Fin 6),eB (iOr .i64 (a.val:Int) (bitI (l.val:Int))) (m.val:Int) = (eB (a.val:Int) (m.val:Int) || decide (m.val = l.val)):=by decide +kernel
theorem aW9:∀ (a:Fin 64) (l:Fin 6),0 ≤ iOr .i64 (a.val:Int) (bitI (l.val:Int)) ∧ iOr .i64 (a.val:Int) (bitI (l.val:Int)) ≤ 63:=by decide +kernel
theorem a0G {a l m:Int} (ha:eK a = true) (hl:kL l = true) (hm:kL m = true):eB (iOr .i64 a (bitI l)) m = (eB a m || decide (m = l)):=by
 unfold eK at ha; simp only [decide_eq_true_eq] at ha
 have hl:=FB.1 hl
 have hm:=FB.1 hm
 have h:=aZF ⟨a.toNat,by omega⟩ ⟨l.toNat,by omega⟩ ⟨m.toNat,by omega⟩
 simp only [Int.toNat_of_nonneg ha.1,Int.toNat_of_nonneg hl.1,Int.toNat_of_nonneg hm.1] at h
 rw [h]
 congr 1
 have:(m.toNat = l.toNat) ↔ m = l:=by omega
 simp only [this]
theorem aW8 {a l:Int} (ha:eK a = true) (hl:kL l = true):eK (iOr .i64 a (bitI l)) = true:=by
 unfold eK at ha ⊢; simp only [decide_eq_true_eq] at ha ⊢
 have hl:=FB.1 hl
 have h:=aW9 ⟨a.toNat,by omega⟩ ⟨l.toNat,by omega⟩
 simpa only [Int.toNat_of_nonneg ha.1,Int.toNat_of_nonneg hl.1] using h
def aM8 (ls:List Int):Int:=ls.foldl (fun o l => iOr .i64 o (bitI l)) 0
theorem aIa {ls:List Int}:∀ {a:Int},eK a = true → (∀ l ∈ ls,kL l = true) → eK (ls.foldl (fun o l => iOr .i64 o (bitI l)) a) = true ∧ ∀ m,kL m = true → eB (ls.foldl (fun o l => iOr .i64 o (bitI l)) a) m = (eB a m || ls.any (fun l => decide (m = l))):=by
 induction ls with
 | nil => intro a ha _; exact ⟨ha,fun m _ => by simp⟩
 | cons l ls ih =>
  intro a ha hl
  have h1:=aW8 ha (hl l (by simp))
  obtain ⟨h2,h3⟩:=ih h1 (fun x hx => hl x (by simp [hx]))
  refine ⟨h2,fun m hm => ?_⟩
  rw [List.foldl_cons,h3 m hm,a0G ha (hl l (by simp)) hm,List.any_cons,Bool.or_assoc]
theorem aXB:∀ m:Int,kL m = true → eB 0 m = false:=by
 intro m _; unfold eB; simp
theorem aPx {ls:List Int} (h:∀ l ∈ ls,kL l = true):eK (aM8 ls) = true:=(aIa (a:=0) rfl h).1
theorem aVp {ls:List Int} (h:∀ l ∈ ls,kL l = true) {m:Int} (hm:kL m = true):eB (aM8 ls) m = ls.any (fun l => decide (m = l)):=by
 have:=(aIa (a:=0) rfl h).2 m hm
 rw [aXB m hm,Bool.false_or] at this
 exact this
def EV (s:List UInt8):Int:=aM8 (s.map ltr)
theorem aXK {β α:Type} {f:β → α → β} {l:List α} {i:Nat} {d:α} {o:β} (h:i < l.length):(l.drop i).foldl f o = (l.drop (i + 1)).foldl f (f o (l.getD i d)):=by
 rw [List.drop_eq_getElem_cons h,List.getD_eq_getElem?_getD,List.getElem?_eq_getElem h]
 rfl
end Ev
end Go.Proofs.YtejmccgfigiadaaGreat
