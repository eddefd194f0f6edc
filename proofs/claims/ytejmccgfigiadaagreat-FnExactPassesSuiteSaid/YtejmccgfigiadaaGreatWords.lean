/-
  Alphabets as sets of aB; alphabets of words, restrictions.
-/
import Derived.Test.YtejmccgfigiadaaGreatDistG
set_option linter.unusedSimpArgs false
set_option linter.unusedVariables false
set_option maxRecDepth 8000
set_option maxHeartbeats 4000000
namespace Go.Proofs.YtejmccgfigiadaaGreat
namespace Ev
theorem aLN:∀ (a:Fin 64) (l m:Fin 6),b5 (iOr .i64 (a.val:Int) (bitI (l.val:Int))) (m.val:Int) = (b5 (a.val:Int) (m.val:Int) || decide (m.val = l.val)):=by decide +kernel
theorem aJ9:∀ (a:Fin 64) (l:Fin 6),0 ≤ iOr .i64 (a.val:Int) (bitI (l.val:Int)) ∧ iOr .i64 (a.val:Int) (bitI (l.val:Int)) ≤ 63:=by decide +kernel
theorem aMM {a l m:Int} (ha:cB a = true) (hl:eA l = true) (hm:eA m = true):b5 (iOr .i64 a (bitI l)) m = (b5 a m || decide (m = l)):=by
 unfold cB at ha; simp only [decide_eq_true_eq] at ha
 have hl:=sD.1 hl
 have hm:=sD.1 hm
 have h:=aLN ⟨a.toNat,by omega⟩ ⟨l.toNat,by omega⟩ ⟨m.toNat,by omega⟩
 simp only [Int.toNat_of_nonneg ha.1,Int.toNat_of_nonneg hl.1,Int.toNat_of_nonneg hm.1] at h
 rw [h]
 congr 1
 have:(m.toNat = l.toNat) ↔ m = l:=by omega
 simp only [this]
theorem aKY {a l:Int} (ha:cB a = true) (hl:eA l = true):cB (iOr .i64 a (bitI l)) = true:=by
 unfold cB at ha ⊢; simp only [decide_eq_true_eq] at ha ⊢
 have hl:=sD.1 hl
 have h:=aJ9 ⟨a.toNat,by omega⟩ ⟨l.toNat,by omega⟩
 simpa only [Int.toNat_of_nonneg ha.1,Int.toNat_of_nonneg hl.1] using h
def aCw (ls:List Int):Int:=ls.foldl (fun o l => iOr .i64 o (bitI l)) 0
theorem WH {ls:List Int}:∀ {a:Int},cB a = true → (∀ l ∈ ls,eA l = true) → cB (ls.foldl (fun o l => iOr .i64 o (bitI l)) a) = true ∧ ∀ m,eA m = true → b5 (ls.foldl (fun o l => iOr .i64 o (bitI l)) a) m = (b5 a m || ls.any (fun l => decide (m = l))):=by
 induction ls with
 | nil => intro a ha _; exact ⟨ha,fun m _ => by simp⟩
 | cons l ls ih =>
  intro a ha hl
  have h1:=aKY ha (hl l (by simp))
  obtain ⟨h2,h3⟩:=ih h1 (fun x hx => hl x (by simp [hx]))
  refine ⟨h2,fun m hm => ?_⟩
  rw [List.foldl_cons,h3 m hm,aMM ha (hl l (by simp)) hm,List.any_cons,Bool.or_assoc]
theorem aKD:∀ m:Int,eA m = true → b5 0 m = false:=by
 intro m _; unfold b5; simp
theorem aFg {ls:List Int} (h:∀ l ∈ ls,eA l = true):cB (aCw ls) = true:=(WH (a:=0) rfl h).1
theorem aIU {ls:List Int} (h:∀ l ∈ ls,eA l = true) {m:Int} (hm:eA m = true):b5 (aCw ls) m = ls.any (fun l => decide (m = l)):=by
 have:=(WH (a:=0) rfl h).2 m hm
 rw [aKD m hm,Bool.false_or] at this
 exact this
def sI (s:List UInt8):Int:=aCw (s.map ltr)
theorem aKg {β α:Type} {f:β → α → β} {l:List α} {i:Nat} {d:α} {o:β} (h:i < l.length):(l.drop i).foldl f o = (l.drop (i + 1)).foldl f (f o (l.getD i d)):=by
 rw [List.drop_eq_getElem_cons h,List.getD_eq_getElem?_getD,List.getElem?_eq_getElem h]
 rfl
end Ev
end Go.Proofs.YtejmccgfigiadaaGreat
