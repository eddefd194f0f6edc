/-
  Letters and alphabets: what the small functions give.
-/
import Derived.Test.YtejmccgfigiadaaGreatLib
import Derived.Test.YtejmccgfigiadaaGreatEvPrim
import Derived.Test.YtejmccgfigiadaaGreatChecked
import Derived.Shelf.SlSortCmp.NoneTotal
set_option linter.unusedSimpArgs false
set_option maxRecDepth 100000
set_option linter.unusedVariables false
set_option maxHeartbeats 4000000
namespace Go.Proofs.YtejmccgfigiadaaGreat
namespace Ev
section
variable {R:Type} {L n:Nat}
def QX (x:Int):Bool:=decide (0 ≤ x ∧ x < 6)
def jY (x:Int):Bool:=decide (0 ≤ x ∧ x ≤ 63)
theorem F2 (hn:1 ≤ n) (a:Int):aA env L n 81 [nI a] [] = some (.d (.bool (jY a)),[]):=by
 obtain _ | n:=n; omega
 simp -implicitDefEqProofs (maxSteps:=2000000) (disch:=try exact Dz) only [↓DN,↓kAsg,↓kRet,UP,simprocAttr,YG,IJ,Tryz.f81]
 by_cases h:0 ≤ a <;> simp [h,jY]
theorem jA:type_of% fun {L} a => ks fun hn => @F2 L _ hn a:=fun {L} a => ks fun hn => @F2 L _ hn a
theorem FU (hn:1 ≤ n) (a:Int):aA env L n 64 [nI a] [] = some (.d (.bool (jY a)),[]):=by
 obtain _ | n:=n; omega
 simp -implicitDefEqProofs (maxSteps:=2000000) (disch:=try exact Dz) only [↓DN,↓kAsg,↓kRet,UP,simprocAttr,YM,H4,Tryz.f64]
 by_cases h:0 ≤ a <;> simp [h,jY]
theorem i7:type_of% fun {L} a => ks fun hn => @FU L _ hn a:=fun {L} a => ks fun hn => @FU L _ hn a
def e6 (a i:Int):Bool:=decide ((a.fdiv (2 ^ (min i.toNat 64))) % 2 = 1)
theorem toNat_ofInt (x:Int):((BitVec.ofInt 64 x).toNat:Int) = x % 18446744073709551616:=by
 rw [BitVec.toNat_ofInt]
 omega
theorem aEh (x:Int):iAnd .i64 x 1 = x % 2:=by
 unfold iAnd
 have h1:(BitVec.ofInt IntKind.i64.bits x &&& BitVec.ofInt IntKind.i64.bits 1).toNat = (BitVec.ofInt 64 x).toNat % 2:=by
  change (BitVec.ofInt 64 x &&& BitVec.ofInt 64 1).toNat = _
  rw [BitVec.toNat_and]
  exact Nat.and_one_is_mod _
 rw [h1]
 have h2:=toNat_ofInt x
 rw [wC (by omega) (by omega)]
 omega
theorem aIq:IntKind.i64.bits = 64:=rfl
theorem XD (hn:1 ≤ n) (a i:Int) (hi:0 ≤ i) (hi2:i ≤ 9223372036854775807):aA env L n 123 [nI a,nI i] [] = some (.d (.bool (e6 a i)),[]):=by
 obtain _ | n:=n; omega
 simp -implicitDefEqProofs (maxSteps:=2000000) (disch:=try exact Dz) only [↓DN,↓kAsg,↓kRet,UP,simprocAttr,↓aCB,aNF,aEh,aIq,aH8,aCh,Tryz.f123]
 rfl
theorem rI:type_of% fun {L} a i hi hi2 => ks fun hn => @XD L _ hn a i hi hi2:=fun {L} a i hi hi2 => ks fun hn => @XD L _ hn a i hi hi2
theorem aDz (hn:1 ≤ n) (a i:Int):aA env L n 65 [nI a,nI i] [] = some (.d (.bool (decide (0 ≤ i) && e6 a i)),[]):=by
 obtain _ | n:=n; omega
 simp -implicitDefEqProofs (maxSteps:=2000000) (disch:=try exact Dz) only [↓DN,↓kAsg,↓kRet,UP,simprocAttr,aEh,aIq,aKY,aGH,Tryz.f65]
 by_cases h:0 ≤ i <;> simp [h,e6]
theorem aEY:type_of% fun {L} a i => ks fun hn => @aDz L _ hn a i:=fun {L} a i => ks fun hn => @aDz L _ hn a i
def aB (a:Int):List Int:=[0,1,2,3,4,5].filter (e6 a)
def oZ:Nat → List Int
 | 0 => []
 | j + 1 => (6 - ((j + 1:Nat):Int)) :: oZ j
theorem UF (hn:1 ≤ n) {a:Int} {k:KE R}:∀ (j:Nat) (i:Int) (l:List Int) (len m:Nat),i + j = 6 → 0 ≤ i → j < m → len = l.length → l.length + j < 100 →
  aM env (aA env L n) L 0 [0,0,0,2] Bz26 (jW 0) Bz40 m (nI a :: Y1 (.d .nils :: .sl 0 0 0 len :: Y1 (nI i :: Y8 (Y2 (Y1 ([])))))) [.arr (ints l) 1 0] k
  = k (.exit 0) (nI a :: Y1 (.d .nils :: .sl 0 0 0 (len + ((oZ j).filter (e6 a)).length) :: Y1 (nI 6 :: Y8 (Y2 (Y1 ([])))))) [.arr (ints (l ++ (oZ j).filter (e6 a))) 1 0]:=by
 intro j
 induction j with
 | zero =>
  intro i l len m hi h0 hm hl hlen
  obtain _ | m:=m; omega
  obtain rfl:i = 6:=by omega
  simp -implicitDefEqProofs (maxSteps:=2000000) (disch:=try exact Dz) only [↓DN,↓kRet,UP,simprocAttr,qA,oS,Tryz.f91]
  simp only [oZ,List.filter_nil,List.append_nil,List.length_nil,Nat.add_zero]
 | succ j ih =>
  intro i l len m hi h0 hm hl hlen
  obtain _ | m:=m; omega
  have hc:i < 6:=by omega
  have hr:oZ (j + 1) = i :: oZ j:=by simp only [oZ]; congr 1; omega
  rw [hr,List.filter_cons]
  cases hb:e6 a i with
  | true =>
   simp -implicitDefEqProofs (maxSteps:=2000000) (disch:=try exact Dz) only [↓DN,↓kRet,UP,simprocAttr,↓aEY,↓ih,hc,hb,h0,qA,oS,Tryz.f91]
   try simp only [List.append_assoc,List.cons_append,List.nil_append,Nat.add_assoc,Nat.add_comm 1]
  | false =>
   simp -implicitDefEqProofs (maxSteps:=2000000) (disch:=try exact Dz) only [↓DN,↓kRet,UP,simprocAttr,↓aEY,↓ih,hc,hb,h0,qA,oS,Tryz.f91]
theorem J3 {R:Type} {L n m:Nat} (hn:1 ≤ n) {a:Int} {k:KE R} (hm:6 < m) :
  aM env (aA env L n) L 0 [0,0,0,2] Bz26 (jW 0) Bz40 m (nI a :: Y1 (.d .nils :: .sl 0 0 0 0 :: Y1 (nI 0 :: Y8 (Y2 (Y1 ([])))))) [.arr [] 1 0] k
  = k (.exit 0) (nI a :: Y1 (.d .nils :: .sl 0 0 0 (aB a).length :: Y1 (nI 6 :: Y8 (Y2 (Y1 ([])))))) [.arr (ints (aB a)) 1 0]:=by
 have h:=UF (R:=R) (L:=L) hn (a:=a) (k:=k) 6 0 [] 0 m rfl (by omega) hm rfl (by simp)
 simp only [Nat.zero_add,List.nil_append] at h
 exact h
theorem bY (a:Int):(aB a).length ≤ 6:=by
 unfold aB
 exact List.length_filter_le _ _
theorem IR (hn:2 ≤ n) (a:Int) (hL:2 ^ 60 ≤ L):aA env L n 91 [nI a] [] = some (.d (.ivs (aB a).length (ints (aB a))),[]):=by
 obtain _ | n:=n; omega
 simp -implicitDefEqProofs (maxSteps:=2000000) (disch:=try exact Dz) only [↓DN,↓kAsg,UP,simprocAttr,↓J3,aAr,LK,Tryz.f91]
theorem j2:type_of% fun {L} a hL => ks fun hn => @IR L _ hn a hL:=fun {L} a hL => ks fun hn => @IR L _ hn a hL
theorem aKE {l:List Int} {P:Int → Prop} (h:∀ v ∈ l,P v) {k:Nat} (hk:k < l.length):P (l.getD k 0):=by
 rw [List.getD_eq_getElem?_getD,List.getElem?_eq_getElem hk]
 exact h _ (List.getElem_mem hk)
theorem cJ {a:Int}:∀ v ∈ aB a,0 ≤ v ∧ v ≤ 5:=by
 intro v hv
 have:=(List.mem_filter.1 hv).1
 simp at this
 omega
end
structure Edge where
 fr:Int
 lt:Int
 to:Int
 deriving DecidableEq,Inhabited
def aNR (e:Edge):List D:=[.int .i64 e.fr,.int .i64 e.lt,.int .i64 e.to]
def aNC (l:List Edge):List D:=(l.map aNR).flatten
def cmpI (a b:Int):Int:=if a < b then -1 else if b < a then 1 else 0
def nZ:List Int → Int
 | [] => 0
 | a :: l => if a = 0 then nZ l else a
def lz:List Int → Nat
 | [] => 0
 | a :: l => if a = 0 then lz l + 1 else 0
theorem cC {α:Type} {l:List α} {i:Nat} {d:α} (h:i < l.length):l.drop i = l.getD i d :: l.drop (i + 1):=by
 rw [List.drop_eq_getElem_cons h,List.getD_eq_getElem?_getD,List.getElem?_eq_getElem h]
 rfl
def seek (p:Nat → Bool):Nat → Nat → Option Nat
 | 0,_ => none
 | j + 1,i => if p i = true then some i else seek p j (i + 1)
theorem pE {p:Nat → Bool}:∀ {j i:Nat},seek p j i = none ↔ ∀ k,i ≤ k → k < i + j → p k = false
 | 0,i => by simp only [seek,true_iff]; intro k h1 h2; omega
 | j + 1,i => by
  simp only [seek]
  by_cases hp:p i = true
  ·rw [if_pos hp]
   simp only [false_iff,reduceCtorEq]
   intro h
   have:=h i (Nat.le_refl _) (by omega)
   rw [hp] at this; cases this
  ·rw [if_neg hp,pE]
   constructor
   ·intro h k h1 h2
    by_cases e:k = i
    ·subst e; simpa using hp
    ·exact h k (by omega) (by omega)
   ·intro h k h1 h2; exact h k (by omega) (by omega)
theorem F3 {p:Nat → Bool}:∀ {j i r:Nat},seek p j i = some r → i ≤ r ∧ r < i + j ∧ p r = true ∧ ∀ k,i ≤ k → k < r → p k = false
 | 0,i,r,h => by simp [seek] at h
 | j + 1,i,r,h => by
  simp only [seek] at h
  by_cases hp:p i = true
  ·rw [if_pos hp] at h
   cases h
   exact ⟨Nat.le_refl _,by omega,hp,fun k h1 h2 => by omega⟩
  ·rw [if_neg hp] at h
   obtain ⟨h1,h2,h3,h4⟩:=F3 h
   refine ⟨by omega,by omega,h3,fun k k1 k2 => ?_⟩
   by_cases e:k = i
   ·subst e; simpa using hp
   ·exact h4 k (by omega) k2
theorem jD {p:Nat → Bool} {j i:Nat} (h:p i = true):seek p (j + 1) i = some i:=by simp [seek,h]
theorem kW {p:Nat → Bool} {j i:Nat} (h:p i = false):seek p (j + 1) i = seek p j (i + 1):=by simp [seek,h]
structure Sys where
 al:Int
 st:Int
 es:List Edge
 deriving DecidableEq,Inhabited
theorem lW {a b:UInt8} {x y:List UInt8}:Op.bytesLess (a :: x) (b :: y) = true ↔ a.toNat < b.toNat ∨ a = b ∧ Op.bytesLess x y = true:=by
 simp only [Op.bytesLess,Bool.or_eq_true,Bool.and_eq_true,beq_iff_eq,decide_eq_true_eq]
 rfl
theorem L0:∀ x:List UInt8,¬ Op.bytesLess x x = true
 | [],h => by simp [Op.bytesLess] at h
 | a :: x,h => by
  rcases lW.1 h with h | ⟨_,h⟩
  ·omega
  ·exact L0 x h
theorem GD:∀ {x y z:List UInt8},Op.bytesLess x y = true → Op.bytesLess y z = true → Op.bytesLess x z = true
 | _,[],_,h,_ => by simp [Op.bytesLess] at h
 | _,_ :: _,[],_,k => by simp [Op.bytesLess] at k
 | [],_ :: _,_ :: _,_,_ => by simp [Op.bytesLess]
 | a :: x,b :: y,c :: z,h,k => by
  rw [lW] at *
  rcases h with h | ⟨rfl,h⟩ <;> rcases k with k | ⟨rfl,k⟩
  ·exact .inl (by omega)
  ·exact .inl h
  ·exact .inl k
  ·exact .inr ⟨rfl,GD h k⟩
theorem z7:∀ (x y:List UInt8),x = y ∨ Op.bytesLess x y = true ∨ Op.bytesLess y x = true
 | [],[] => .inl rfl
 | [],_ :: _ => .inr (.inl (by simp [Op.bytesLess]))
 | _ :: _,[] => .inr (.inr (by simp [Op.bytesLess]))
 | a :: x,b :: y => by
  rw [lW,lW]
  rcases Nat.lt_trichotomy a.toNat b.toNat with h | h | h
  ·exact .inr (.inl (.inl h))
  ·have e:a = b:=UInt8.toNat_inj.1 h
   subst e
   rcases z7 x y with g | g | g
   ·exact .inl (by rw [g])
   ·exact .inr (.inl (.inr ⟨rfl,g⟩))
   ·exact .inr (.inr (.inr ⟨rfl,g⟩))
  ·exact .inr (.inr (.inl h))
theorem aG7 {x y:List UInt8}:cmpB x y < 0 ↔ Op.bytesLess x y = true:=by
 unfold cmpB
 by_cases h1:Op.bytesLess x y = true
 ·simp [h1]
 ·by_cases h2:Op.bytesLess y x = true <;> simp [h1,h2]
theorem BJ {x y:List UInt8}:cmpX x y < 0 ↔ x.length < y.length ∨ x.length = y.length ∧ Op.bytesLess x y = true:=by
 unfold cmpX
 simp only [aAw]
 rcases Nat.lt_trichotomy x.length y.length with h | h | h
 ·have e:C0 (x.length:Int) (y.length:Int) = -1:=by unfold C0; rw [if_pos (by omega)]
  rw [e]; simp [h]
 ·have e:C0 (x.length:Int) (y.length:Int) = 0:=by unfold C0; rw [h]; simp
  rw [e,if_pos rfl,h]
  by_cases h0:cmpB x y = 0
  ·rw [if_pos h0]
   have:=aG7 (x:=x) (y:=y)
   rw [h0] at this
   simp only [true_and,← this]
   omega
  ·rw [if_neg h0,aG7]; simp
 ·have e:C0 (x.length:Int) (y.length:Int) = 1:=by unfold C0; rw [if_neg (by omega),if_pos (by omega)]
  rw [e,if_neg (by omega)]
  constructor
  ·intro h2; omega
  ·rintro (h2 | ⟨h2,_⟩) <;> omega
theorem x3 (x:List UInt8):¬ cmpX x x < 0:=by
 rw [BJ]
 rintro (h | ⟨_,h⟩)
 ·omega
 ·exact L0 _ h
theorem pX {x y z:List UInt8} (h:cmpX x y < 0) (k:cmpX y z < 0):cmpX x z < 0:=by
 rw [BJ] at *
 rcases h with h | ⟨h1,h⟩ <;> rcases k with k | ⟨k1,k⟩
 ·exact .inl (by omega)
 ·exact .inl (by omega)
 ·exact .inl (by omega)
 ·exact .inr ⟨by omega,GD h k⟩
theorem IN (x y:List UInt8):x = y ∨ cmpX x y < 0 ∨ cmpX y x < 0:=by
 rw [BJ,BJ]
 rcases Nat.lt_trichotomy x.length y.length with h | h | h
 ·exact .inr (.inl (.inl h))
 ·rcases z7 x y with g | g | g
  ·exact .inl g
  ·exact .inr (.inl (.inr ⟨h,g⟩))
  ·exact .inr (.inr (.inr ⟨h.symm,g⟩))
 ·exact .inr (.inr (.inl h))
theorem aBb {x y:List UInt8} (h:cmpX x y < 0):¬ cmpX y x < 0:=fun k => x3 x (pX h k)
theorem EQ (a b c:List UInt8) (h1:leX a b = true) (h2:leX b c = true):leX a c = true:=by
 unfold leX at *
 simp only [Bool.not_eq_true',decide_eq_false_iff_not] at *
 intro h
 rcases IN a b with rfl | g | g
 ·exact h2 h
 ·exact h2 (pX h g)
 ·exact h1 g
theorem EZ (a b:List UInt8):(leX a b || leX b a) = true:=by
 unfold leX
 by_cases h:cmpX b a < 0
 ·have:=aBb h
  simp [this]
 ·simp [h]
theorem UR {a b:List UInt8} (h1:leX a b = true) (h2:leX b a = true):a = b:=by
 unfold leX at *
 simp only [Bool.not_eq_true',decide_eq_false_iff_not] at *
 rcases IN a b with g | g | g
 ·exact g
 ·exact (h2 g).elim
 ·exact (h1 g).elim
theorem aIK {a b:List UInt8} (h:cmpX a b < 0):leX a b = true:=by
 unfold leX
 simp only [Bool.not_eq_true',decide_eq_false_iff_not]
 exact aBb h
theorem aNS {a b:Int}:[D.int .i64 a,.int .i64 b] = ints [a,b]:=rfl
theorem aI0 {x y:List UInt8} (h1:¬ Op.bytesLess x y = true):(x == y) = !Op.bytesLess y x:=by
 rw [Bool.eq_iff_iff]
 simp only [Bool.not_eq_true',beq_iff_eq]
 rcases z7 x y with rfl | g | g
 ·simpa using h1
 ·exact absurd g h1
 ·refine ⟨fun e => ?_,fun e => by rw [g] at e; cases e⟩
  subst e
  exact absurd g h1
theorem XO {E:Env} {t:TypeId} {h:H} {a b:List UInt8}:b6 E .gtr t h (.d (.str a)) (.d (.str b)) = some (.d (.bool (!(Op.bytesLess a b || a == b))),h):=by simp [b6,aBin]
theorem aHE {E:Env} {t:TypeId} {h:H} {a b:List UInt8}:b6 E .neq t h (.d (.str a)) (.d (.str b)) = some (.d (.bool (!(a == b))),h):=by simp [b6,aBin]
theorem IY {E:Env} {t:TypeId} {h:H} {a b:List UInt8}:b6 E .lss t h (.d (.str a)) (.d (.str b)) = some (.d (.bool (Op.bytesLess a b)),h):=by simp [b6,aBin]
section
variable {R:Type} {L n:Nat}
namespace X1
noncomputable def env1:Env:={ env with prim:=fun _ => none,eqs:=[] }
theorem e1P:env1.P = env.P:=rfl
theorem Q8 {args:List A} {h:H}:aA env1 L (n + 1) 130 args h = aK env1 (aA env1 L n) L h.length [] ([]) U3 E9 (args ++ List.replicate (Tryz.f130.ntmps - args.length) (.d .undef)) h (kFin env1.P h.length false [.tmp 2]) :=
 aV (mode:=1) kr Tryz.func130 kr kr VJ kr kr
theorem oG {args:List A} {h:H}:aA env1 L (n + 1) 96 args h = aK env1 (aA env1 L n) L h.length [] ([]) PV lK (args ++ List.replicate (Tryz.f96.ntmps - args.length) (.d .undef)) h (kFin env1.P h.length false [.tmp 4]) :=
 aV (mode:=1) kr Tryz.func96 kr kr N7 kr kr
theorem HD {args:List A} {h:H}:aA env1 L (n + 1) 95 args h = aK env1 (aA env1 L n) L h.length [] (false :: false :: true :: true :: false :: false :: true :: true :: true :: false :: false :: false :: false :: false :: false :: false :: false :: false :: []) nV DU (args ++ List.replicate (Tryz.f95.ntmps - args.length) (.d .undef)) h (kFin env1.P h.length false [.tmp 2]) :=
 aV (mode:=1) kr Tryz.func95 kr kr LX kr kr
theorem pG {R:Type} {call:aW} {L nf n:Nat} {thaw:List Nat} {live m:List Bool} {s:List A} {h:H} {k:KE R}:aM env1 call L nf thaw live (nV 0) m (n + 1) s h k = aK env1 call L nf thaw live nV qT s h (bE env1 call L nf thaw live (nV 0) m n k) :=
 aQ LX kr
theorem JR {args:List A} {h:H}:aA env1 L (n + 1) 131 args h = aK env1 (aA env1 L n) L h.length [] ([]) MI zC (args ++ List.replicate (Tryz.f131.ntmps - args.length) (.d .undef)) h (kFin env1.P h.length false [.tmp 2]) :=
 aV (mode:=1) kr Tryz.func131 kr kr MA kr kr
theorem lB {args:List A} {h:H}:aA env1 L (n + 1) 97 args h = aK env1 (aA env1 L n) L h.length [] ([]) HO jK (args ++ List.replicate (Tryz.f97.ntmps - args.length) (.d .undef)) h (kFin env1.P h.length false [.tmp 4]) :=
 aV (mode:=1) kr Tryz.func97 kr kr IB kr kr
theorem aAh {args:List A} {h:H}:aA env1 L (n + 1) 52 args h = aK env1 (aA env1 L n) L h.length [] ([]) aC3 O2 (args ++ List.replicate (Tryz.f52.ntmps - args.length) (.d .undef)) h (kFin env1.P h.length false [.tmp 4]) :=
 aV (mode:=1) kr Tryz.func52 kr kr aCT kr kr
theorem Q4 (hn:1 ≤ n) (a:Int):aA env1 L n 130 [nI a] [] = some (.d (.bool false),[]):=by
 obtain _ | n:=n; omega
 rw [Q8]
 simp only [E9,Tryz.f130,SLM,simprocAttr]
 simp -implicitDefEqProofs (maxSteps:=2000000) (disch:=try exact Dz) only [↓DN,↓kAsg,↓kRet,e1P,UP,simprocAttr]
theorem rW {hq:H} {k:KA R} (hn:1 ≤ n) (a:Int):aY env1 (aA env1 L n) hq 130 [nI a] k = k (.d (.bool false)) hq :=
 cP rfl (Q4 hn a) rfl (.inl rfl)
theorem MB (hn:2 ≤ n) (a b:Int):aA env1 L n 96 [nI a,nI b] [] = some (nI (cmpI a b),[]):=by
 unfold cmpI
 by_cases h1:a < b
 ·obtain _ | n:=n; omega
  rw [oG]
  simp only [lK,Tryz.f96,SLM,simprocAttr]
  simp -implicitDefEqProofs (maxSteps:=2000000) (disch:=try exact Dz) only [↓DN,↓kAsg,↓kRet,e1P,UP,simprocAttr,↓rW,h1]
 ·by_cases h2:b < a
  ·obtain _ | n:=n; omega
   rw [oG]
   simp only [lK,Tryz.f96,SLM,simprocAttr]
   simp -implicitDefEqProofs (maxSteps:=2000000) (disch:=try exact Dz) only [↓DN,↓kAsg,↓kRet,e1P,UP,simprocAttr,↓rW,h1,h2]
  ·obtain _ | n:=n; omega
   rw [oG]
   simp only [lK,Tryz.f96,SLM,simprocAttr]
   simp -implicitDefEqProofs (maxSteps:=2000000) (disch:=try exact Dz) only [↓DN,↓kAsg,↓kRet,e1P,UP,simprocAttr,↓rW,h1,h2]
theorem L6 {hq:H} {k:KA R} (hn:2 ≤ n) (a b:Int):aY env1 (aA env1 L n) hq 96 [nI a,nI b] k = k (nI (cmpI a b)) hq :=
 cP rfl (MB hn a b) rfl (.inl rfl)
theorem D4 (hn:1 ≤ n) {l:List Int} (hl:l.length ≤ 1000) {k:KE R}:∀ (i:Int) (m:Nat) (h0:0 ≤ i) (hi:i ≤ l.length) (hm:(l.length:Int) - i < m),
  aM env1 (aA env1 L n) L 0 [] (Z2 (U2 (Z2 (U2 (U1 (Z8 (Z1 ([])))))))) (nV 0) (U2 (Z2 (U2 (Z2 (Z1 (U8 (U1 ([])))))))) m (Y2 (nI 0 :: nI 0 :: Y2 (.d (.ivs l.length (ints l)) :: nI (l.length) :: nI i :: Y8 (Y1 ([]))))) [] k
  = if nZ (l.drop i.toNat) = 0 then k (.exit 0) (Y2 (nI 0 :: nI 0 :: Y2 (.d (.ivs l.length (ints l)) :: nI (l.length) :: nI (l.length) :: Y8 (Y1 ([]))))) [] else k .ret (Y2 (nI (nZ (l.drop i.toNat)) :: nI 0 :: Y2 (.d (.ivs l.length (ints l)) :: nI (l.length) :: nI (i + lz (l.drop i.toNat)) :: Y8 (Y1 ([]))))) []:=by
 intro i m h0 hi hm
 obtain ⟨j,hj⟩:∃ j:Nat,(j:Int) = (l.length:Int) - i:=⟨((l.length:Int) - i).toNat,by omega⟩
 induction j generalizing i m with
 | zero =>
  obtain _ | m:=m; omega
  obtain rfl:i = l.length:=by omega
  rw [pG]
  simp only [qT,Tryz.f95,SLM,simprocAttr]
  simp -implicitDefEqProofs (maxSteps:=2000000) (disch:=try exact Dz) only [↓DN,↓kRet,UP,simprocAttr,Int.lt_irrefl]
  simp only [List.drop_length,nZ,if_true]
 | succ j ih =>
  obtain _ | m:=m; omega
  have hc:i < l.length:=by omega
  have hk:i.toNat < l.length:=by omega
  have e1:(i + 1).toNat = i.toNat + 1:=by omega
  rw [cC hk (d:=0)]
  by_cases hz:l.getD i.toNat 0 = 0
  ·rw [pG]
   simp only [qT,Tryz.f95,SLM,simprocAttr]
   simp -implicitDefEqProofs (maxSteps:=2000000) (disch:=try exact Dz) only [↓DN,↓kRet,e1P,UP,simprocAttr,hc,hz,↓ih]
   simp only [nZ,lz,if_true,e1,Int.natCast_add,Int.add_assoc,Int.add_comm 1]
   rfl
  ·rw [pG]
   simp only [qT,Tryz.f95,SLM,simprocAttr]
   simp -implicitDefEqProofs (maxSteps:=2000000) (disch:=try exact Dz) only [↓DN,↓kRet,e1P,UP,simprocAttr,hc,hz]
   simp only [nZ,lz,hz,if_false,Int.natCast_zero,Int.add_zero]
theorem ZW (hn:2 ≤ n) (l:List Int) (hl:l.length ≤ 1000) (hL:2 ^ 60 ≤ L):aA env1 L n 95 [.d (.ivs l.length (ints l))] [] = some (nI (nZ l),[]):=by
 by_cases hz:nZ l = 0
 ·obtain _ | n:=n; omega
  rw [HD]
  simp only [DU,Tryz.f95,SLM,simprocAttr]
  simp -implicitDefEqProofs (maxSteps:=2000000) (disch:=try exact Dz) only [↓DN,↓kAsg,↓kRet,e1P,UP,simprocAttr,↓D4,Int.toNat_zero,hz]
 ·obtain _ | n:=n; omega
  rw [HD]
  simp only [DU,Tryz.f95,SLM,simprocAttr]
  simp -implicitDefEqProofs (maxSteps:=2000000) (disch:=try exact Dz) only [↓DN,↓kAsg,↓kRet,e1P,UP,simprocAttr,↓D4,Int.toNat_zero,hz]
theorem ZX {k:A → Option R} (hn:2 ≤ n) (l:List Int) (hl:l.length ≤ 1000) (hL:2 ^ 60 ≤ L):sY (aA env1 L n) 95 [.d (.ivs l.length (ints l))] k = k (nI (nZ l)) :=
 kZ (ZW hn l hl hL) rfl
theorem TX {hq:H} {k:KA R} {id0 g0 o0 len0:Nat} :aY env1 (aA env1 L n) hq 95 [.sl id0 g0 o0 len0] k = match box (QM hq [.sl id0 g0 o0 len0]) with
  | .mk (some fs) => sY (aA env1 L n) 95 fs fun r => k r hq
  | _ => none:=dR YF
theorem KI (hn:1 ≤ n) (x:List UInt8):aA env1 L n 131 [.d (.str x)] [] = some (.d (.bool false),[]):=by
 obtain _ | n:=n; omega
 rw [JR]
 simp only [zC,Tryz.f131,SLM,simprocAttr]
 simp -implicitDefEqProofs (maxSteps:=2000000) (disch:=try exact Dz) only [↓DN,↓kAsg,↓kRet,e1P,UP,simprocAttr,aHE]
theorem mU {hq:H} {k:KA R} (hn:1 ≤ n) (x:List UInt8):aY env1 (aA env1 L n) hq 131 [.d (.str x)] k = k (.d (.bool false)) hq :=
 cP rfl (KI hn x) rfl (.inl rfl)
theorem G9 (hn:2 ≤ n) (x y:List UInt8):aA env1 L n 97 [.d (.str x),.d (.str y)] [] = some (nI (cmpB x y),[]):=by
 unfold cmpB
 by_cases h1:Op.bytesLess x y = true
 ·obtain _ | n:=n; omega
  rw [lB]
  simp only [jK,Tryz.f97,SLM,simprocAttr]
  simp -implicitDefEqProofs (maxSteps:=2000000) (disch:=try exact Dz) only [↓DN,↓kAsg,↓kRet,e1P,UP,simprocAttr,↓mU,IY,h1]
 ·have hg:=aI0 h1
  by_cases h2:Op.bytesLess y x = true
  ·rw [h2,Bool.not_true] at hg
   obtain _ | n:=n; omega
   rw [lB]
   simp only [jK,Tryz.f97,SLM,simprocAttr]
   simp -implicitDefEqProofs (maxSteps:=2000000) (disch:=try exact Dz) only [↓DN,↓kAsg,↓kRet,e1P,UP,simprocAttr,↓mU,IY,XO,h1,h2,hg]
  ·rw [Bool.eq_false_iff.2 h2,Bool.not_false] at hg
   obtain _ | n:=n; omega
   rw [lB]
   simp only [jK,Tryz.f97,SLM,simprocAttr]
   simp -implicitDefEqProofs (maxSteps:=2000000) (disch:=try exact Dz) only [↓DN,↓kAsg,↓kRet,e1P,UP,simprocAttr,↓mU,IY,XO,h1,h2,hg]
theorem GW {hq:H} {k:KA R} (hn:2 ≤ n) (x y:List UInt8):aY env1 (aA env1 L n) hq 97 [.d (.str x),.d (.str y)] k = k (nI (cmpB x y)) hq :=
 cP rfl (G9 hn x y) rfl (.inl rfl)
theorem ev1_i_shortlex (hn:4 ≤ n) (x y:List UInt8) (hL:2 ^ 60 ≤ L):aA env1 L n 52 [.d (.str x),.d (.str y)] [] = some (nI (cmpX x y),[]):=by
 have k3:∀ {R:Type} {n:Nat} {k:A → Option R},2 ≤ n → sY (aA env1 L n) 95 [.d (.ivs 2 (ints [cmpI x.length y.length,cmpB x y]))] k = k (nI (nZ [cmpI x.length y.length,cmpB x y])):=fun h => ZX h [cmpI x.length y.length,cmpB x y] (by simp) hL
 obtain _ | n:=n; omega
 rw [aAh]
 simp only [O2,Tryz.f52,SLM,simprocAttr]
 simp -implicitDefEqProofs (maxSteps:=2000000) (disch:=try exact Dz) only [↓DN,↓kAsg,↓kRet,e1P,UP,simprocAttr,↓L6,↓GW,↓TX,aNS,↓k3]
 rfl
end X1
end
section
open Go.Shelf
def aD3:Go.Shelf.Ren:=⟨fun | 6 => 69 | 15 => 108 | 14 => 107 | 28 => 143 | 29 => 144 | 20 => 135 | 21 => 136 | 22 => 137 | 23 => 138 | 24 => 139 | 25 => 140 | 26 => 141 | 27 => 142 | 46 => 165 | 47 => 166 | 48 => 167 | 49 => 168 | 50 => 169 | 57 => 180 | n => n,fun | 22 => 27 | 24 => 9 | 25 => 69 | 3 => 3 | 39 => 82 | 0 => 0 | 53 => 134 | 55 => 136 | 4 => 4 | 46 => 127 | 45 => 126 | 50 => 131 | 5 => 5 | 9 => 9 | 66 => 159 | 70 => 163 | 76 => 173 | 77 => 174 | n => n,fun | n => n⟩
theorem aFg:Go.Proofs.SlLaysF.n6 Tryz.prog aD3:={
 mixed:=by kernel_rfl
 f6:=⟨Tryz.f69.name,by decide,Tryz.func69.trans (congrArg some (by kernel_rfl))⟩
 f14:=⟨Tryz.f107.name,by decide,Tryz.func107.trans (congrArg some (by kernel_rfl))⟩
 f15:=Tryz.func108.trans (congrArg some (by kernel_rfl))
 f20:=⟨Tryz.f135.name,by decide,Tryz.func135.trans (congrArg some (by kernel_rfl))⟩
 f21:=⟨Tryz.f136.name,by decide,Tryz.func136.trans (congrArg some (by kernel_rfl))⟩
 f22:=⟨Tryz.f137.name,by decide,Tryz.func137.trans (congrArg some (by kernel_rfl))⟩
 f23:=⟨Tryz.f138.name,by decide,Tryz.func138.trans (congrArg some (by kernel_rfl))⟩
 f24:=⟨Tryz.f139.name,by decide,Tryz.func139.trans (congrArg some (by kernel_rfl))⟩
 f25:=⟨Tryz.f140.name,by decide,Tryz.func140.trans (congrArg some (by kernel_rfl))⟩
 f26:=⟨Tryz.f141.name,by decide,Tryz.func141.trans (congrArg some (by kernel_rfl))⟩
 f27:=⟨Tryz.f142.name,by decide,Tryz.func142.trans (congrArg some (by kernel_rfl))⟩
 f28:=Tryz.func143.trans (congrArg some (by kernel_rfl))
 f29:=Tryz.func144.trans (congrArg some (by kernel_rfl))
 f46:=⟨Tryz.f165.name,by decide,Tryz.func165.trans (congrArg some (by kernel_rfl))⟩
 f47:=Tryz.func166.trans (congrArg some (by kernel_rfl))
 f48:=Tryz.func167.trans (congrArg some (by kernel_rfl))
 f49:=⟨Tryz.f168.name,by decide,Tryz.func168.trans (congrArg some (by kernel_rfl))⟩
 f50:=⟨Tryz.f169.name,by decide,Tryz.func169.trans (congrArg some (by kernel_rfl))⟩
 f57:=⟨Tryz.f180.name,by decide,Tryz.func180.trans (congrArg some (by kernel_rfl))⟩
 t0:=Tryz.underlying0
 a0:=Tryz.isAgg0
 z0:=Tryz.sizeOf0
 v0:=Tryz.zeroValue0
 t3:=Tryz.underlying3
 a3:=Tryz.isAgg3
 z3:=Tryz.sizeOf3
 v3:=Tryz.zeroValue3
 t4:=Tryz.underlying4
 a4:=Tryz.isAgg4
 z4:=Tryz.sizeOf4
 v4:=Tryz.zeroValue4
 t5:=Tryz.underlying5
 a5:=Tryz.isAgg5
 z5:=Tryz.sizeOf5
 v5:=Tryz.zeroValue5
 t9:=Tryz.underlying9
 a9:=Tryz.isAgg9
 z9:=Tryz.sizeOf9
 v9:=Tryz.zeroValue9
 t22:=Tryz.underlying27
 a22:=Tryz.isAgg27
 z22:=Tryz.sizeOf27
 v22:=Tryz.zeroValue27
 a24:=Tryz.isAgg9
 z24:=Tryz.sizeOf9
 t25:=Tryz.underlying69
 a25:=Tryz.isAgg69
 z25:=Tryz.sizeOf69
 v25:=Tryz.zeroValue69
 t39:=Tryz.underlying82
 a39:=Tryz.isAgg82
 z39:=Tryz.sizeOf82
 v39:=Tryz.zeroValue82
 t45:=Tryz.underlying126
 a45:=Tryz.isAgg126
 z45:=Tryz.sizeOf126
 v45:=Tryz.zeroValue126
 t46:=Tryz.underlying127
 a46:=Tryz.isAgg127
 z46:=Tryz.sizeOf127
 v46:=Tryz.zeroValue127
 t50:=Tryz.underlying131
 a50:=Tryz.isAgg131
 z50:=Tryz.sizeOf131
 v50:=Tryz.zeroValue131
 t53:=Tryz.underlying134
 a53:=Tryz.isAgg134
 z53:=Tryz.sizeOf134
 v53:=Tryz.zeroValue134
 t55:=Tryz.underlying136
 a55:=Tryz.isAgg136
 z55:=Tryz.sizeOf136
 v55:=Tryz.zeroValue136
 t66:=Tryz.underlying159
 a66:=Tryz.isAgg159
 z66:=Tryz.sizeOf159
 v66:=Tryz.zeroValue159
 t70:=Tryz.underlying163
 a70:=Tryz.isAgg163
 z70:=Tryz.sizeOf163
 v70:=Tryz.zeroValue163
 t76:=Tryz.underlying173
 a76:=Tryz.isAgg173
 z76:=Tryz.sizeOf173
 v76:=Tryz.zeroValue173
 t77:=Tryz.underlying174
 a77:=Tryz.isAgg174
 z77:=Tryz.sizeOf174
 v77:=Tryz.zeroValue174 }
end
end Ev
end Go.Proofs.YtejmccgfigiadaaGreat
