/-
  Small numbers as text; a map from strings to numbers.
-/
import Derived.Test.YtppdfjdfjfoddaaDoorWrongA
import Derived.Test.YtppdfjdfjfoddaaDoorFirsts
set_option linter.unusedSimpArgs false
set_option linter.unusedVariables false
set_option maxRecDepth 8000
set_option maxHeartbeats 4000000
namespace Go.Proofs.YtppdfjdfjfoddaaDoor
namespace Ev
def gH (x:Int):Str:=if x < 10 then [UInt8.ofNat (48 + x.toNat)] else [49,UInt8.ofNat (38 + x.toNat)]
theorem aHK (x:Int):(gH x).length ≤ 2:=by unfold gH; split <;> simp
theorem aHx {x y:Int} (x0:0 ≤ x) (x1:x < 12) (y0:0 ≤ y) (y1:y < 12) (h:gH x = gH y):x = y:=by
 have key:∀ a b:Fin 12,gH (a:Nat) = gH (b:Nat) → a = b:=by decide
 have e:=key ⟨x.toNat,by omega⟩ ⟨y.toNat,by omega⟩ (by
  show gH (x.toNat:Int) = gH (y.toNat:Int)
  rw [Int.toNat_of_nonneg x0,Int.toNat_of_nonneg y0,h])
 have:=congrArg Fin.val e
 simp only at this
 omega
theorem IO {x:Int} (x0:0 ≤ x) (x1:x < 12):(44:UInt8) ∉ gH x:=by
 have key:∀ a:Fin 12,(44:UInt8) ∉ gH (a:Nat):=by decide
 have:=key ⟨x.toNat,by omega⟩
 simp only at this
 rw [Int.toNat_of_nonneg x0] at this
 exact this
theorem aPP {x:Int} (x0:0 ≤ x) (x1:x < 10):List.take ((x + 1).toNat - x.toNat) (List.drop x.toNat ([48,49,50,51,52,53,54,55,56,57,97,98,99,100,101,102,103,104,105,106,107,108,109,110,111,112,113,114,115,116,117,118,119,120,121,122]:List UInt8)) = gH x:=by
 have key:∀ a:Fin 10,List.take (((a:Nat):Int) + 1 - ((a:Nat):Int)).toNat (List.drop (a:Nat) ([48,49,50,51,52,53,54,55,56,57,97,98,99,100,101,102,103,104,105,106,107,108,109,110,111,112,113,114,115,116,117,118,119,120,121,122]:List UInt8)) = gH (a:Nat):=by decide
 have:=key ⟨x.toNat,by omega⟩
 simp only at this
 rw [Int.toNat_of_nonneg x0] at this
 rw [show (x + 1).toNat - x.toNat = (x + 1 - x).toNat by omega]
 exact this
theorem WZ {h:H} {s:Str} {lo hi:Int} (hb:Shut (decide (0 ≤ lo) && decide (lo ≤ hi) && decide (hi ≤ s.length))):iU env.P h 9 (.d (.str s)) (some lo) (some hi) = some (.d (.str ((s.drop lo.toNat).take (hi.toNat - lo.toNat)))):=by
 have hb:=hb.it
 simp only [Bool.and_eq_true,decide_eq_true_eq] at hb
 have hu:env.P.underlying 9 = some .string:=by kernel_rfl
 have hd:tO s.length (some lo) (some hi) = some (lo.toNat,hi.toNat):=by
  simp only [tO,Option.getD_some]
  rw [if_pos ⟨by omega,by omega,by omega⟩]
 simp only [iU,hu,hd,Option.map_some]
theorem IQ {L n:Nat} (hn:1 ≤ n) (x:Int) (x0:0 ≤ x) (x1:x < 12):aA env L n 105 [.d (.int .i64 x)] [] = some (.d (.str (gH x)),[]):=by
 by_cases h:x < 10
 ·have h1:=aPP x0 h
  obtain _ | n:=n; omega
  rw [oW]
  simp only [mD,Tryd.f105,SLM,simprocAttr]
  simp -implicitDefEqProofs (maxSteps:=2000000) (disch:=try exact Dz) only [↓DN,↓kAsg,↓kRet,UP,simprocAttr,h,x0,h1]
 ·rcases (show x = 10 ∨ x = 11 by omega) with rfl | rfl
  ·have e:gH 10 = [49,48]:=by decide
   rw [e]
   obtain _ | n:=n; omega
   rw [oW]
   simp only [mD,Tryd.f105,SLM,simprocAttr]
   simp -implicitDefEqProofs (maxSteps:=2000000) (disch:=try exact Dz) only [↓DN,↓kAsg,↓kRet,UP,simprocAttr,h,↓WZ]
   all_goals rfl
  ·have e:gH 11 = [49,49]:=by decide
   rw [e]
   obtain _ | n:=n; omega
   rw [oW]
   simp only [mD,Tryd.f105,SLM,simprocAttr]
   simp -implicitDefEqProofs (maxSteps:=2000000) (disch:=try exact Dz) only [↓DN,↓kAsg,↓kRet,UP,simprocAttr,h,↓WZ]
   all_goals rfl
theorem IE {R:Type} {L n:Nat} {hq:H} {k:A → H → Option R} (hn:1 ≤ n) (x:Int) (x0:0 ≤ x) (x1:x < 12):aL env (aA env L n) hq 105 [.d (.int .i64 x)] k = k (.d (.str (gH x))) hq :=
 a5 rfl (IQ hn x x0 x1) rfl (.inl rfl)
theorem CM {L n:Nat} (hn:2 ≤ n) (x:Int) (x0:0 ≤ x) (x1:x < 12):aA env L n 98 [.d (.int .i64 x),.d (.int .i64 10)] [] = some (.d (.str (gH x)),[]):=by
 have hx:x < 100:=by omega
 obtain _ | n:=n; omega
 rw [CN]
 simp only [rR,Tryd.f98,SLM,simprocAttr]
 simp -implicitDefEqProofs (maxSteps:=2000000) (disch:=try exact Dz) only [↓DN,↓kAsg,↓kRet,UP,simprocAttr,↓IE,x0,hx]
theorem CQ {R:Type} {L n:Nat} {hq:H} {k:A → H → Option R} (hn:2 ≤ n) (x:Int) (x0:0 ≤ x) (x1:x < 12):aL env (aA env L n) hq 98 [.d (.int .i64 x),.d (.int .i64 10)] k = k (.d (.str (gH x))) hq :=
 a5 rfl (CM hn x x0 x1) rfl (.inl rfl)
theorem L8 {L n:Nat} (hn:3 ≤ n) (x:Int) (x0:0 ≤ x) (x1:x < 12):aA env L n 83 [.d (.int .i64 x)] [] = some (.d (.str (gH x)),[]):=by
 obtain _ | n:=n; omega
 rw [KX]
 simp only [wV,Tryd.f83,SLM,simprocAttr]
 simp -implicitDefEqProofs (maxSteps:=2000000) (disch:=try exact Dz) only [↓DN,↓kAsg,↓kRet,UP,simprocAttr,↓CQ]
theorem JK {R:Type} {L n:Nat} {hq:H} {k:A → H → Option R} (hn:3 ≤ n) (x:Int) (x0:0 ≤ x) (x1:x < 12):aL env (aA env L n) hq 83 [.d (.int .i64 x)] k = k (.d (.str (gH x))) hq :=
 a5 rfl (L8 hn x x0 x1) rfl (.inl rfl)
theorem aCr {L n:Nat} (hn:4 ≤ n) (x:Int) (x0:0 ≤ x) (x1:x < 12):aA env L n 60 [.d (.int .i64 x)] [] = some (.d (.str (gH x)),[]):=by
 obtain _ | n:=n; omega
 rw [aCE]
 simp only [PR,Tryd.f60,SLM,simprocAttr]
 simp -implicitDefEqProofs (maxSteps:=2000000) (disch:=try exact Dz) only [↓DN,↓kAsg,↓kRet,UP,simprocAttr,↓JK]
theorem gW {R:Type} {L n:Nat} {hq:H} {k:A → H → Option R} (hn:4 ≤ n) (x:Int) (x0:0 ≤ x) (x1:x < 12):aL env (aA env L n) hq 60 [.d (.int .i64 x)] k = k (.d (.str (gH x))) hq :=
 a5 rfl (aCr hn x x0 x1) rfl (.inl rfl)
def t9:List Str → Nat → List (D × D)
 | [],_ => []
 | x :: o,i => (.str x,.int .i64 (i:Nat)) :: t9 o (i + 1)
def numS (o:List Str):List (D × D):=t9 o 0
theorem aGa:∀ (o:List Str) (x:Str) (i:Nat),t9 (o ++ [x]) i = t9 o i ++ [(.str x,.int .i64 ((i + o.length:Nat):Int))]
 | [],x,i => by simp [t9]
 | y :: o,x,i => by
  simp only [List.cons_append,t9,aGa o x (i + 1),List.length_cons]
  rw [show i + 1 + o.length = i + (o.length + 1) by omega]
theorem aAY {x:Str}:∀ (o:List Str) (i c:Nat),H7 .string (.str x) (t9 o i) c = some (if x ∈ o then some (c + idxG o x) else none)
 | [],i,c => by simp [t9,H7]
 | y :: o,i,c => by
  simp only [t9,H7,aGK]
  by_cases h:x = y
  ·subst h
   simp [aF5]
  ·have h2:(x == y) = false:=by simpa using h
   have h4:idxG (y :: o) x = idxG o x + 1:=by rw [aF5,if_neg fun e => h e.symm]
   rw [h2]
   simp only [aAY o (i + 1) (c + 1),List.mem_cons,h,false_or]
   by_cases hm:x ∈ o
   ·rw [if_pos hm,if_pos hm,h4,show c + 1 + idxG o x = c + (idxG o x + 1) by omega]
   ·rw [if_neg hm,if_neg hm]
theorem aFJ:∀ (o:List Str) (i q:Nat) (z:D × D),q < o.length → ((t9 o i).getD q z).2 = .int .i64 ((i + q:Nat):Int)
 | [],_,_,_,h => by simp at h
 | x :: o,i,0,z,_ => by simp [t9]
 | x :: o,i,q + 1,z,h => by
  simp only [t9,List.getD_cons_succ]
  rw [aFJ o (i + 1) q z (by simpa using h),show i + 1 + q = i + (q + 1) by omega]
theorem aEH:∀ (o:List Str) (i:Nat),(t9 o i).length = o.length
 | [],_ => rfl
 | x :: o,i => by simp [t9,aEH o]
theorem aJ5:mapT env.P 77 = some (.string,3):=by kernel_rfl
theorem aM7:bS env.P 3 = some (.d (.int .i64 0)):=by kernel_rfl
theorem aPY {h:H} {id:Nat} {o:List Str} {x:Str} (hi:h[id]? = some (.mp (numS o))) :
  zS env.P h 77 true (.mp id) (.d (.str x)) = some (.tup [.d (.int .i64 (if x ∈ o then (idxG o x:Nat) else 0)),.d (.bool (decide (x ∈ o)))],h):=by
 unfold zS numS at *
 simp only [aJ5,hi,aM7,YI,yS,Bool.and_self,if_true,aAY]
 by_cases hm:x ∈ o
 ·have hq:=aSg hm
  simp only [if_pos hm,KY,wH,if_true,Option.isSome_some,Nat.zero_add,aFJ o 0 _ _ hq,decide_eq_true hm]
 ·simp only [if_neg hm,KY,wH,if_true,Option.isSome_none,decide_eq_false hm]
theorem aSF {h:H} {id:Nat} {o:List Str} {x:Str} (hi:h[id]? = some (.mp (numS o))) (hx:x ∉ o) :
  qL env.P h 77 (.mp id) (.d (.str x)) (.d (.int .i64 (o.length:Int))) = some (.d .undef,h.set id (.mp (numS (o ++ [x])))):=by
 unfold qL
 unfold numS at *
 simp only [aJ5,hi,YI,yS,Bool.and_self,if_true,aAY,if_neg hx,FW,aGa,Nat.zero_add]
theorem aET {a b:O} {T:H} {o:List Str} {x:Str}:zS env.P (a :: b :: .mp (numS o) :: T) 77 true (.mp 2) (.d (.str x)) = some (.tup [.d (.int .i64 (if x ∈ o then (idxG o x:Nat) else 0)),.d (.bool (decide (x ∈ o)))],a :: b :: .mp (numS o) :: T):=aPY rfl
theorem aPi {a b:O} {T:H} {o:List Str} {x:Str} (hx:x ∉ o):qL env.P (a :: b :: .mp (numS o) :: T) 77 (.mp 2) (.d (.str x)) (.d (.int .i64 (o.length:Int))) = some (.d .undef,a :: b :: .mp (numS (o ++ [x])) :: T):=aSF rfl hx
theorem aO7:numS [] = []:=rfl
theorem aAV {o:List Str}:(numS o).length = o.length:=aEH o 0
end Ev
end Go.Proofs.YtppdfjdfjfoddaaDoor
