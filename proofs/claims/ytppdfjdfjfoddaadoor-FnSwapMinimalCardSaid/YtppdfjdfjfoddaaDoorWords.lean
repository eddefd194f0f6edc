/-
  Alphabets as sets of aE; alphabets of words, restrictions.
-/
import Derived.Test.YtppdfjdfjfoddaaDoorDrawR
set_option linter.unusedSimpArgs false
set_option linter.unusedVariables false
set_option maxRecDepth 8000
set_option maxHeartbeats 4000000
namespace Go.Proofs.YtppdfjdfjfoddaaDoor
namespace Ev
theorem aQD:∀ (a:Fin 64) (l m:Fin 6),d9 (iOr .i64 (a.val:Int) (bitI (l.val:Int))) (m.val:Int) = (d9 (a.val:Int) (m.val:Int) || decide (m.val = l.val)):=by decide +kernel
theorem aN3:∀ (a:Fin 64) (l:Fin 6),0 ≤ iOr .i64 (a.val:Int) (bitI (l.val:Int)) ∧ iOr .i64 (a.val:Int) (bitI (l.val:Int)) ≤ 63:=by decide +kernel
theorem aRw {a l m:Int} (ha:eS a = true) (hl:bL l = true) (hm:bL m = true):d9 (iOr .i64 a (bitI l)) m = (d9 a m || decide (m = l)):=by
 unfold eS at ha; simp only [decide_eq_true_eq] at ha
 have hl:=gY.1 hl
 have hm:=gY.1 hm
 have h:=aQD ⟨a.toNat,by omega⟩ ⟨l.toNat,by omega⟩ ⟨m.toNat,by omega⟩
 simp only [Int.toNat_of_nonneg ha.1,Int.toNat_of_nonneg hl.1,Int.toNat_of_nonneg hm.1] at h
 rw [h]
 congr 1
 have:(m.toNat = l.toNat) ↔ m = l:=by omega
 simp only [this]
theorem aNL {a l:Int} (ha:eS a = true) (hl:bL l = true):eS (iOr .i64 a (bitI l)) = true:=by
 unfold eS at ha ⊢; simp only [decide_eq_true_eq] at ha ⊢
 have hl:=gY.1 hl
 have h:=aN3 ⟨a.toNat,by omega⟩ ⟨l.toNat,by omega⟩
 simpa only [Int.toNat_of_nonneg ha.1,Int.toNat_of_nonneg hl.1] using h
def aFg (ls:List Int):Int:=ls.foldl (fun o l => iOr .i64 o (bitI l)) 0
theorem aAF {ls:List Int}:∀ {a:Int},eS a = true → (∀ l ∈ ls,bL l = true) → eS (ls.foldl (fun o l => iOr .i64 o (bitI l)) a) = true ∧ ∀ m,bL m = true → d9 (ls.foldl (fun o l => iOr .i64 o (bitI l)) a) m = (d9 a m || ls.any (fun l => decide (m = l))):=by
 induction ls with
 | nil => intro a ha _; exact ⟨ha,fun m _ => by simp⟩
 | cons l ls ih =>
  intro a ha hl
  have h1:=aNL ha (hl l (by simp))
  obtain ⟨h2,h3⟩:=ih h1 (fun x hx => hl x (by simp [hx]))
  refine ⟨h2,fun m hm => ?_⟩
  rw [List.foldl_cons,h3 m hm,aRw ha (hl l (by simp)) hm,List.any_cons,Bool.or_assoc]
theorem aOh:∀ m:Int,bL m = true → d9 0 m = false:=by
 intro m _; unfold d9; simp
theorem aHu {ls:List Int} (h:∀ l ∈ ls,bL l = true):eS (aFg ls) = true:=(aAF (a:=0) rfl h).1
theorem aKj {ls:List Int} (h:∀ l ∈ ls,bL l = true) {m:Int} (hm:bL m = true):d9 (aFg ls) m = ls.any (fun l => decide (m = l)):=by
 have:=(aAF (a:=0) rfl h).2 m hm
 rw [aOh m hm,Bool.false_or] at this
 exact this
theorem aRy {m:Int} (h:bL m = true):m ∈ [0,1,2,3,4,(5:Int)]:=by
 have:=gY.1 h
 simp; omega
theorem P1 {a m:Int}:m ∈ aE a ↔ bL m = true ∧ d9 a m = true:=by
 unfold aE
 rw [List.mem_filter]
 constructor
 ·rintro ⟨h1,h2⟩
  refine ⟨gY.2 ?_,h2⟩
  simp at h1; omega
 ·rintro ⟨h1,h2⟩
  exact ⟨aRy h1,h2⟩
theorem vL {l x y:Int} (hl:bL l = true) (hx:bL x = true) (hy:bL y = true):bL (fQ l x y) = true:=by
 have h1:=gY.1 hl
 have h2:=gY.1 hx
 have h3:=gY.1 hy
 exact gY.2 ⟨EW h1.1 h2.1 h3.1,PT h1.2 h2.2 h3.2⟩
theorem DB {l x y:Int}:fQ (fQ l x y) x y = l:=by
 unfold fQ
 by_cases h1:l = x
 ·by_cases h2:y = x <;> simp [h1,h2]
 ·by_cases h2:l = y
  ·simp [h1,h2]
  ·simp [h1,h2]
theorem LI {a x y:Int} (ha:eS a = true) (hx:bL x = true) (hy:bL y = true):b5 a x y = aFg ((aE a).map fun l => fQ l x y):=by
 unfold b5 aFg
 simp only [ha,hx,hy,Bool.and_self,if_true,List.foldl_map]
 rfl
theorem aD0 {a x y:Int} (hx:bL x = true) (hy:bL y = true):∀ l ∈ (aE a).map fun l => fQ l x y,bL l = true:=by
 intro l hl
 obtain ⟨k,hk,rfl⟩:=List.mem_map.1 hl
 exact vL (P1.1 hk).1 hx hy
theorem K0 {a x y:Int} (ha:eS a = true) (hx:bL x = true) (hy:bL y = true):eS (b5 a x y) = true:=by
 rw [LI ha hx hy]; exact aHu (aD0 hx hy)
theorem QH {a x y m:Int} (ha:eS a = true) (hx:bL x = true) (hy:bL y = true) (hm:bL m = true):d9 (b5 a x y) m = d9 a (fQ m x y):=by
 rw [LI ha hx hy,aKj (aD0 hx hy) hm,Bool.eq_iff_iff,List.any_eq_true]
 constructor
 ·rintro ⟨l,hl,hd⟩
  obtain ⟨k,hk,rfl⟩:=List.mem_map.1 hl
  simp only [decide_eq_true_eq] at hd
  rw [hd,DB]
  exact (P1.1 hk).2
 ·intro hb
  exact ⟨m,List.mem_map.2 ⟨fQ m x y,P1.2 ⟨vL hm hx hy,hb⟩,DB⟩,by simp⟩
end Ev
end Go.Proofs.YtppdfjdfjfoddaaDoor
