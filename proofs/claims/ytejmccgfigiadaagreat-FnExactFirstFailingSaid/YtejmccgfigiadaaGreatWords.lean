/-
  Alphabets as sets of aB; alphabets of words, restrictions.
-/
import Derived.Test.YtejmccgfigiadaaGreatDistG
set_option linter.unusedSimpArgs false
set_option linter.unusedVariables false
set_option maxRecDepth 8000
set_option maxHeartbeats 4000000
namespace Go.Proofs.YtejmccgfigiadaaGreat
namespace Ev
theorem aZH:∀ (a:Fin 64) (l m:Fin 6),eD (iOr .i64 (a.val:Int) (bitI (l.val:Int))) (m.val:Int) = (eD (a.val:Int) (m.val:Int) || decide (m.val = l.val)):=by decide +kernel
theorem aWA:∀ (a:Fin 64) (l:Fin 6),0 ≤ iOr .i64 (a.val:Int) (bitI (l.val:Int)) ∧ iOr .i64 (a.val:Int) (bitI (l.val:Int)) ≤ 63:=by decide +kernel
theorem a0J {a l m:Int} (ha:eK a = true) (hl:kN l = true) (hm:kN m = true):eD (iOr .i64 a (bitI l)) m = (eD a m || decide (m = l)):=by
 unfold eK at ha; simp only [decide_eq_true_eq] at ha
 have hl:=E7.1 hl
 have hm:=E7.1 hm
 have h:=aZH ⟨a.toNat,by omega⟩ ⟨l.toNat,by omega⟩ ⟨m.toNat,by omega⟩
 simp only [Int.toNat_of_nonneg ha.1,Int.toNat_of_nonneg hl.1,Int.toNat_of_nonneg hm.1] at h
 rw [h]
 congr 1
 have:(m.toNat = l.toNat) ↔ m = l:=by omega
 simp only [this]
theorem aW6 {a l:Int} (ha:eK a = true) (hl:kN l = true):eK (iOr .i64 a (bitI l)) = true:=by
 unfold eK at ha ⊢; simp only [decide_eq_true_eq] at ha ⊢
 have hl:=E7.1 hl
 have h:=aWA ⟨a.toNat,by omega⟩ ⟨l.toNat,by omega⟩
 simpa only [Int.toNat_of_nonneg ha.1,Int.toNat_of_nonneg hl.1] using h
def aNd (ls:List Int):Int:=ls.foldl (fun o l => iOr .i64 o (bitI l)) 0
theorem aJO {ls:List Int}:∀ {a:Int},eK a = true → (∀ l ∈ ls,kN l = true) → eK (ls.foldl (fun o l => iOr .i64 o (bitI l)) a) = true ∧ ∀ m,kN m = true → eD (ls.foldl (fun o l => iOr .i64 o (bitI l)) a) m = (eD a m || ls.any (fun l => decide (m = l))):=by
 induction ls with
 | nil => intro a ha _; exact ⟨ha,fun m _ => by simp⟩
 | cons l ls ih =>
  intro a ha hl
  have h1:=aW6 ha (hl l (by simp))
  obtain ⟨h2,h3⟩:=ih h1 (fun x hx => hl x (by simp [hx]))
  refine ⟨h2,fun m hm => ?_⟩
  rw [List.foldl_cons,h3 m hm,a0J ha (hl l (by simp)) hm,List.any_cons,Bool.or_assoc]
theorem aW2:∀ m:Int,kN m = true → eD 0 m = false:=by
 intro m _; unfold eD; simp
theorem aPW {ls:List Int} (h:∀ l ∈ ls,kN l = true):eK (aNd ls) = true:=(aJO (a:=0) rfl h).1
theorem aVf {ls:List Int} (h:∀ l ∈ ls,kN l = true) {m:Int} (hm:kN m = true):eD (aNd ls) m = ls.any (fun l => decide (m = l)):=by
 have:=(aJO (a:=0) rfl h).2 m hm
 rw [aW2 m hm,Bool.false_or] at this
 exact this
def FA (s:List UInt8):Int:=aNd (s.map ltr)
theorem aXs {β α:Type} {f:β → α → β} {l:List α} {i:Nat} {d:α} {o:β} (h:i < l.length):(l.drop i).foldl f o = (l.drop (i + 1)).foldl f (f o (l.getD i d)):=by
 rw [List.drop_eq_getElem_cons h,List.getD_eq_getElem?_getD,List.getElem?_eq_getElem h]
 rfl
end Ev
end Go.Proofs.YtejmccgfigiadaaGreat
