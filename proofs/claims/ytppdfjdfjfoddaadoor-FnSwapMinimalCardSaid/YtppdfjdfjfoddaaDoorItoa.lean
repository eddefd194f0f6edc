/-
  Small numbers as text; a map from strings to numbers.
-/
import Derived.Test.YtppdfjdfjfoddaaDoorWrongC
import Derived.Test.YtppdfjdfjfoddaaDoorFirsts
set_option linter.unusedSimpArgs false
set_option linter.unusedVariables false
set_option maxRecDepth 8000
set_option maxHeartbeats 4000000
namespace Go.Proofs.YtppdfjdfjfoddaaDoor
namespace Ev
def f7 (x:Int):Str:=if x < 10 then [UInt8.ofNat (48 + x.toNat)] else [49,UInt8.ofNat (38 + x.toNat)]
theorem aFw (x:Int):(f7 x).length ≤ 2:=by unfold f7; split <;> simp
theorem aFW {x y:Int} (x0:0 ≤ x) (x1:x < 12) (y0:0 ≤ y) (y1:y < 12) (h:f7 x = f7 y):x = y:=by
 have key:∀ a b:Fin 12,f7 (a:Nat) = f7 (b:Nat) → a = b:=by decide
 have e:=key ⟨x.toNat,by omega⟩ ⟨y.toNat,by omega⟩ (by
  show f7 (x.toNat:Int) = f7 (y.toNat:Int)
  rw [Int.toNat_of_nonneg x0,Int.toNat_of_nonneg y0,h])
 have:=congrArg Fin.val e
 simp only at this
 omega
theorem GJ {x:Int} (x0:0 ≤ x) (x1:x < 12):(44:UInt8) ∉ f7 x:=by
 have key:∀ a:Fin 12,(44:UInt8) ∉ f7 (a:Nat):=by decide
 have:=key ⟨x.toNat,by omega⟩
 simp only at this
 rw [Int.toNat_of_nonneg x0] at this
 exact this
theorem aOl {x:Int} (x0:0 ≤ x) (x1:x < 10):List.take ((x + 1).toNat - x.toNat) (List.drop x.toNat ([48,49,50,51,52,53,54,55,56,57,97,98,99,100,101,102,103,104,105,106,107,108,109,110,111,112,113,114,115,116,117,118,119,120,121,122]:List UInt8)) = f7 x:=by
 have key:∀ a:Fin 10,List.take (((a:Nat):Int) + 1 - ((a:Nat):Int)).toNat (List.drop (a:Nat) ([48,49,50,51,52,53,54,55,56,57,97,98,99,100,101,102,103,104,105,106,107,108,109,110,111,112,113,114,115,116,117,118,119,120,121,122]:List UInt8)) = f7 (a:Nat):=by decide
 have:=key ⟨x.toNat,by omega⟩
 simp only at this
 rw [Int.toNat_of_nonneg x0] at this
 rw [show (x + 1).toNat - x.toNat = (x + 1 - x).toNat by omega]
 exact this
theorem TD {h:H} {s:Str} {lo hi:Int} (hb:Shut (decide (0 ≤ lo) && decide (lo ≤ hi) && decide (hi ≤ s.length))):iA env.P h 9 (.d (.str s)) (some lo) (some hi) = some (.d (.str ((s.drop lo.toNat).take (hi.toNat - lo.toNat)))):=by
 have hb:=hb.it
 simp only [Bool.and_eq_true,decide_eq_true_eq] at hb
 have hu:env.P.underlying 9 = some .string:=by kernel_rfl
 have hd:rU s.length (some lo) (some hi) = some (lo.toNat,hi.toNat):=by
  simp only [rU,Option.getD_some]
  rw [if_pos ⟨by omega,by omega,by omega⟩]
 simp only [iA,hu,hd,Option.map_some]
theorem GG {L n:Nat} (hn:1 ≤ n) (x:Int) (x0:0 ≤ x) (x1:x < 12):aA env L n 105 [.d (.int .i64 x)] [] = some (.d (.str (f7 x)),[]):=by
 by_cases h:x < 10
 ·have h1:=aOl x0 h
  obtain _ | n:=n; omega
  rw [nP]
  simp only [kM,Tryd.f105,SLM,simprocAttr]
  simp -implicitDefEqProofs (maxSteps:=2000000) (disch:=try exact Dz) only [↓DN,↓kAsg,↓kRet,UP,simprocAttr,h,x0,h1]
 ·rcases (show x = 10 ∨ x = 11 by omega) with rfl | rfl
  ·have e:f7 10 = [49,48]:=by decide
   rw [e]
   obtain _ | n:=n; omega
   rw [nP]
   simp only [kM,Tryd.f105,SLM,simprocAttr]
   simp -implicitDefEqProofs (maxSteps:=2000000) (disch:=try exact Dz) only [↓DN,↓kAsg,↓kRet,UP,simprocAttr,h,↓TD]
   all_goals rfl
  ·have e:f7 11 = [49,49]:=by decide
   rw [e]
   obtain _ | n:=n; omega
   rw [nP]
   simp only [kM,Tryd.f105,SLM,simprocAttr]
   simp -implicitDefEqProofs (maxSteps:=2000000) (disch:=try exact Dz) only [↓DN,↓kAsg,↓kRet,UP,simprocAttr,h,↓TD]
   all_goals rfl
theorem GE {R:Type} {L n:Nat} {hq:H} {k:A → H → Option R} (hn:1 ≤ n) (x:Int) (x0:0 ≤ x) (x1:x < 12):aL env (aA env L n) hq 105 [.d (.int .i64 x)] k = k (.d (.str (f7 x))) hq :=
 aV rfl (GG hn x x0 x1) rfl (.inl rfl)
theorem A6 {L n:Nat} (hn:2 ≤ n) (x:Int) (x0:0 ≤ x) (x1:x < 12):aA env L n 98 [.d (.int .i64 x),.d (.int .i64 10)] [] = some (.d (.str (f7 x)),[]):=by
 have hx:x < 100:=by omega
 obtain _ | n:=n; omega
 rw [A5]
 simp only [pU,Tryd.f98,SLM,simprocAttr]
 simp -implicitDefEqProofs (maxSteps:=2000000) (disch:=try exact Dz) only [↓DN,↓kAsg,↓kRet,UP,simprocAttr,↓GE,x0,hx]
theorem A9 {R:Type} {L n:Nat} {hq:H} {k:A → H → Option R} (hn:2 ≤ n) (x:Int) (x0:0 ≤ x) (x1:x < 12):aL env (aA env L n) hq 98 [.d (.int .i64 x),.d (.int .i64 10)] k = k (.d (.str (f7 x))) hq :=
 aV rfl (A6 hn x x0 x1) rfl (.inl rfl)
theorem H5 {L n:Nat} (hn:3 ≤ n) (x:Int) (x0:0 ≤ x) (x1:x < 12):aA env L n 83 [.d (.int .i64 x)] [] = some (.d (.str (f7 x)),[]):=by
 obtain _ | n:=n; omega
 rw [JV]
 simp only [u3,Tryd.f83,SLM,simprocAttr]
 simp -implicitDefEqProofs (maxSteps:=2000000) (disch:=try exact Dz) only [↓DN,↓kAsg,↓kRet,UP,simprocAttr,↓A9]
theorem JN {R:Type} {L n:Nat} {hq:H} {k:A → H → Option R} (hn:3 ≤ n) (x:Int) (x0:0 ≤ x) (x1:x < 12):aL env (aA env L n) hq 83 [.d (.int .i64 x)] k = k (.d (.str (f7 x))) hq :=
 aV rfl (H5 hn x x0 x1) rfl (.inl rfl)
theorem aBz {L n:Nat} (hn:4 ≤ n) (x:Int) (x0:0 ≤ x) (x1:x < 12):aA env L n 60 [.d (.int .i64 x)] [] = some (.d (.str (f7 x)),[]):=by
 obtain _ | n:=n; omega
 rw [aBw]
 simp only [ND,Tryd.f60,SLM,simprocAttr]
 simp -implicitDefEqProofs (maxSteps:=2000000) (disch:=try exact Dz) only [↓DN,↓kAsg,↓kRet,UP,simprocAttr,↓JN]
theorem gP {R:Type} {L n:Nat} {hq:H} {k:A → H → Option R} (hn:4 ≤ n) (x:Int) (x0:0 ≤ x) (x1:x < 12):aL env (aA env L n) hq 60 [.d (.int .i64 x)] k = k (.d (.str (f7 x))) hq :=
 aV rfl (aBz hn x x0 x1) rfl (.inl rfl)
def sS:List Str → Nat → List (D × D)
 | [],_ => []
 | x :: o,i => (.str x,.int .i64 (i:Nat)) :: sS o (i + 1)
def numS (o:List Str):List (D × D):=sS o 0
theorem aDa:∀ (o:List Str) (x:Str) (i:Nat),sS (o ++ [x]) i = sS o i ++ [(.str x,.int .i64 ((i + o.length:Nat):Int))]
 | [],x,i => by simp [sS]
 | y :: o,x,i => by
  simp only [List.cons_append,sS,aDa o x (i + 1),List.length_cons]
  rw [show i + 1 + o.length = i + (o.length + 1) by omega]
theorem YO {x:Str}:∀ (o:List Str) (i c:Nat),wM .string (.str x) (sS o i) c = some (if x ∈ o then some (c + idxG o x) else none)
 | [],i,c => by simp [sS,wM]
 | y :: o,i,c => by
  simp only [sS,wM,aAl]
  by_cases h:x = y
  ·subst h
   simp [aDE]
  ·have h2:(x == y) = false:=by simpa using h
   have h4:idxG (y :: o) x = idxG o x + 1:=by rw [aDE,if_neg fun e => h e.symm]
   rw [h2]
   simp only [YO o (i + 1) (c + 1),List.mem_cons,h,false_or]
   by_cases hm:x ∈ o
   ·rw [if_pos hm,if_pos hm,h4,show c + 1 + idxG o x = c + (idxG o x + 1) by omega]
   ·rw [if_neg hm,if_neg hm]
theorem aEs:∀ (o:List Str) (i q:Nat) (z:D × D),q < o.length → ((sS o i).getD q z).2 = .int .i64 ((i + q:Nat):Int)
 | [],_,_,_,h => by simp at h
 | x :: o,i,0,z,_ => by simp [sS]
 | x :: o,i,q + 1,z,h => by
  simp only [sS,List.getD_cons_succ]
  rw [aEs o (i + 1) q z (by simpa using h),show i + 1 + q = i + (q + 1) by omega]
theorem aEr:∀ (o:List Str) (i:Nat),(sS o i).length = o.length
 | [],_ => rfl
 | x :: o,i => by simp [sS,aEr o]
theorem aH0:mapT env.P 77 = some (.string,3):=by kernel_rfl
theorem aMv:bN env.P 3 = some (.d (.int .i64 0)):=by kernel_rfl
theorem aNf {h:H} {id:Nat} {o:List Str} {x:Str} (hi:h[id]? = some (.mp (numS o))) :
  p8 env.P h 77 true (.mp id) (.d (.str x)) = some (.tup [.d (.int .i64 (if x ∈ o then (idxG o x:Nat) else 0)),.d (.bool (decide (x ∈ o)))],h):=by
 unfold p8 numS at *
 simp only [aH0,hi,aMv,LJ,sX,Bool.and_self,if_true,YO]
 by_cases hm:x ∈ o
 ·have hq:=aIq hm
  simp only [if_pos hm,zY,pY,if_true,Option.isSome_some,Nat.zero_add,aEs o 0 _ _ hq,decide_eq_true hm]
 ·simp only [if_neg hm,zY,pY,if_true,Option.isSome_none,decide_eq_false hm]
theorem aQu {h:H} {id:Nat} {o:List Str} {x:Str} (hi:h[id]? = some (.mp (numS o))) (hx:x ∉ o) :
  iS env.P h 77 (.mp id) (.d (.str x)) (.d (.int .i64 (o.length:Int))) = some (.d .undef,h.set id (.mp (numS (o ++ [x])))):=by
 unfold iS
 unfold numS at *
 simp only [aH0,hi,LJ,sX,Bool.and_self,if_true,YO,if_neg hx,A4,aDa,Nat.zero_add]
theorem aDN {a b:O} {T:H} {o:List Str} {x:Str}:p8 env.P (a :: b :: .mp (numS o) :: T) 77 true (.mp 2) (.d (.str x)) = some (.tup [.d (.int .i64 (if x ∈ o then (idxG o x:Nat) else 0)),.d (.bool (decide (x ∈ o)))],a :: b :: .mp (numS o) :: T):=aNf rfl
theorem aN1 {a b:O} {T:H} {o:List Str} {x:Str} (hx:x ∉ o):iS env.P (a :: b :: .mp (numS o) :: T) 77 (.mp 2) (.d (.str x)) (.d (.int .i64 (o.length:Int))) = some (.d .undef,a :: b :: .mp (numS (o ++ [x])) :: T):=aQu rfl hx
theorem aNH:numS [] = []:=rfl
theorem ZA {o:List Str}:(numS o).length = o.length:=aEr o 0
end Ev
end Go.Proofs.YtppdfjdfjfoddaaDoor
