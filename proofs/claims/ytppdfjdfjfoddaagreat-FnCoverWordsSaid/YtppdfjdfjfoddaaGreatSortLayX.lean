/-
  Letters and alphabets: what the small functions give.
-/
import Derived.Test.YtppdfjdfjfoddaaGreatLib
import Derived.Test.YtppdfjdfjfoddaaGreatEvPrim
import Derived.Test.YtppdfjdfjfoddaaGreatChecked
import Derived.Shelf.SlSortCmp.NoneTotal
set_option linter.unusedSimpArgs false
set_option maxRecDepth 100000
set_option linter.unusedVariables false
set_option maxHeartbeats 4000000
namespace Go.Proofs.YtppdfjdfjfoddaaGreat
namespace Ev
def uO (x:Int):Bool:=decide (0 ≤ x ∧ x < 6)
def m5 (x:Int):Bool:=decide (0 ≤ x ∧ x ≤ 63)
theorem aDs {L n:Nat} (hn:1 ≤ n) (a:Int):aA env L n 39 [.d (.int .i64 a)] [] = some (.d (.bool (m5 a)),[]):=by
 obtain _ | n:=n; omega
 rw [aCT]
 simp only [PR,Tryz.f39,SLM,simprocAttr]
 simp -implicitDefEqProofs (maxSteps:=2000000) (disch:=try exact Dz) only [↓DN,↓kAsg,↓kRet,UP,simprocAttr]
 by_cases h:0 ≤ a <;> simp [h,m5]
theorem iL {R:Type} {L n:Nat} {hq:H} {k:A → H → Option R} (hn:1 ≤ n) (a:Int):aL env (aA env L n) hq 39 [.d (.int .i64 a)] k = k (.d (.bool (m5 a))) hq :=
 aR rfl (aDs hn a) rfl (.inl rfl)
theorem aCJ {L n:Nat} (hn:1 ≤ n) (a:Int):aA env L n 20 [.d (.int .i64 a)] [] = some (.d (.bool (m5 a)),[]):=by
 obtain _ | n:=n; omega
 rw [aCD]
 simp only [PA,Tryz.f20,SLM,simprocAttr]
 simp -implicitDefEqProofs (maxSteps:=2000000) (disch:=try exact Dz) only [↓DN,↓kAsg,↓kRet,UP,simprocAttr]
 by_cases h:0 ≤ a <;> simp [h,m5]
theorem cA {R:Type} {L n:Nat} {hq:H} {k:A → H → Option R} (hn:1 ≤ n) (a:Int):aL env (aA env L n) hq 20 [.d (.int .i64 a)] k = k (.d (.bool (m5 a))) hq :=
 aR rfl (aCJ hn a) rfl (.inl rfl)
def iA (a i:Int):Bool:=decide ((a.fdiv (2 ^ (min i.toNat 64))) % 2 = 1)
theorem toNat_ofInt (x:Int):((BitVec.ofInt 64 x).toNat:Int) = x % 18446744073709551616:=by
 rw [BitVec.toNat_ofInt]
 omega
theorem aIb (x:Int):iAnd .i64 x 1 = x % 2:=by
 unfold iAnd
 have h1:(BitVec.ofInt IntKind.i64.bits x &&& BitVec.ofInt IntKind.i64.bits 1).toNat = (BitVec.ofInt 64 x).toNat % 2:=by
  change (BitVec.ofInt 64 x &&& BitVec.ofInt 64 1).toNat = _
  rw [BitVec.toNat_and]
  exact Nat.and_one_is_mod _
 rw [h1]
 have h2:=toNat_ofInt x
 rw [CA (by omega) (by omega)]
 omega
theorem aMS:IntKind.i64.bits = 64:=rfl
theorem aLw {L n:Nat} (hn:1 ≤ n) (a i:Int) (hi:0 ≤ i) (hi2:i ≤ 9223372036854775807):aA env L n 69 [.d (.int .i64 a),.d (.int .i64 i)] [] = some (.d (.bool (iA a i)),[]):=by
 obtain _ | n:=n; omega
 rw [aLY]
 simp only [aGE,Tryz.f69,SLM,simprocAttr]
 simp -implicitDefEqProofs (maxSteps:=2000000) (disch:=try exact Dz) only [↓DN,↓kAsg,↓kRet,UP,simprocAttr,↓aGK,aUb,aIb,aMS]
 rfl
theorem lI {R:Type} {L n:Nat} {hq:H} {k:A → H → Option R} (hn:1 ≤ n) (a i:Int) (hi:0 ≤ i) (hi2:i ≤ 9223372036854775807):aL env (aA env L n) hq 69 [.d (.int .i64 a),.d (.int .i64 i)] k = k (.d (.bool (iA a i))) hq :=
 aR rfl (aLw hn a i hi hi2) rfl (.inl rfl)
theorem aP8 {L n:Nat} (hn:1 ≤ n) (a i:Int):aA env L n 46 [.d (.int .i64 a),.d (.int .i64 i)] [] = some (.d (.bool (decide (0 ≤ i) && iA a i)),[]):=by
 obtain _ | n:=n; omega
 rw [aPK]
 simp only [aK3,Tryz.f46,SLM,simprocAttr]
 simp -implicitDefEqProofs (maxSteps:=2000000) (disch:=try exact Dz) only [↓DN,↓kAsg,↓kRet,UP,simprocAttr,aIb,aMS]
 by_cases h:0 ≤ i <;> simp [h,iA]
theorem pB {R:Type} {L n:Nat} {hq:H} {k:A → H → Option R} (hn:1 ≤ n) (a i:Int):aL env (aA env L n) hq 46 [.d (.int .i64 a),.d (.int .i64 i)] k = k (.d (.bool (decide (0 ≤ i) && iA a i))) hq :=
 aR rfl (aP8 hn a i) rfl (.inl rfl)
def aC (a:Int):List Int:=[0,1,2,3,4,5].filter (iA a)
def uD:Nat → List Int
 | 0 => []
 | j + 1 => (6 - ((j + 1:Nat):Int)) :: uD j
theorem aFe {x:Int}:uO x = true ↔ 0 ≤ x ∧ x ≤ 5:=by
 unfold uO; simp; omega
theorem J6 {R:Type} {L n:Nat} (hn:1 ≤ n) {a:Int} {k:Exit → List A → H → Option R}:∀ (j:Nat) (i:Int) (l:List Int) (len m:Nat),i + j = 6 → 0 ≤ i → j < m → len = l.length → l.length + j < 100 →
  aO env (aA env L n) L 0 [0,0,0,2] (U1 (Z1 (U2 (Z1 (U1 (Z8 (Z2 (Z1 ([]))))))))) (oX 0) (Z1 (U1 (Z2 (U1 (Z1 (U8 (U2 (U1 ([]))))))))) m (.d (.int .i64 a) :: Y1 (.d .nils :: .sl 0 0 0 len :: Y1 (.d (.int .i64 i) :: Y8 (Y2 (Y1 ([])))))) [.arr (ints l) 1 0] k
  = k (.exit 0) (.d (.int .i64 a) :: Y1 (.d .nils :: .sl 0 0 0 (len + ((uD j).filter (iA a)).length) :: Y1 (.d (.int .i64 6) :: Y8 (Y2 (Y1 ([])))))) [.arr (ints (l ++ (uD j).filter (iA a))) 1 0]:=by
 intro j
 induction j with
 | zero =>
  intro i l len m hi h0 hm hl hlen
  obtain _ | m:=m; omega
  obtain rfl:i = 6:=by omega
  rw [uX]
  simp only [uI,Tryz.f21,SLM,simprocAttr]
  simp -implicitDefEqProofs (maxSteps:=2000000) (disch:=try exact Dz) only [↓DN,↓kAsg,↓kRet,UP,simprocAttr,↓pB]
  simp only [uD,List.filter_nil,List.append_nil,List.length_nil,Nat.add_zero]
 | succ j ih =>
  intro i l len m hi h0 hm hl hlen
  obtain _ | m:=m; omega
  have hc:i < 6:=by omega
  have hr:uD (j + 1) = i :: uD j:=by simp only [uD]; congr 1; omega
  rw [hr,List.filter_cons]
  cases hb:iA a i with
  | true =>
   rw [uX]
   simp only [uI,Tryz.f21,SLM,simprocAttr]
   simp -implicitDefEqProofs (maxSteps:=2000000) (disch:=try exact Dz) only [↓DN,↓kAsg,↓kRet,UP,simprocAttr,↓pB,↓ih,hc,hb,h0,bX,eU]
   try simp only [List.append_assoc,List.cons_append,List.nil_append,Nat.add_assoc,Nat.add_comm 1]
  | false =>
   rw [uX]
   simp only [uI,Tryz.f21,SLM,simprocAttr]
   simp -implicitDefEqProofs (maxSteps:=2000000) (disch:=try exact Dz) only [↓DN,↓kAsg,↓kRet,UP,simprocAttr,↓pB,↓ih,hc,hb,h0]
theorem R0 {R:Type} {L n m:Nat} (hn:1 ≤ n) {a:Int} {k:Exit → List A → H → Option R} (hm:6 < m) :
  aO env (aA env L n) L 0 [0,0,0,2] (U1 (Z1 (U2 (Z1 (U1 (Z8 (Z2 (Z1 ([]))))))))) (oX 0) (Z1 (U1 (Z2 (U1 (Z1 (U8 (U2 (U1 ([]))))))))) m (.d (.int .i64 a) :: Y1 (.d .nils :: .sl 0 0 0 0 :: Y1 (.d (.int .i64 0) :: Y8 (Y2 (Y1 ([])))))) [.arr [] 1 0] k
  = k (.exit 0) (.d (.int .i64 a) :: Y1 (.d .nils :: .sl 0 0 0 (aC a).length :: Y1 (.d (.int .i64 6) :: Y8 (Y2 (Y1 ([])))))) [.arr (ints (aC a)) 1 0]:=by
 have h:=J6 (R:=R) (L:=L) hn (a:=a) (k:=k) 6 0 [] 0 m rfl (by omega) hm rfl (by simp)
 simp only [Nat.zero_add,List.nil_append] at h
 exact h
theorem eY (a:Int):(aC a).length ≤ 6:=by
 unfold aC
 exact List.length_filter_le _ _
theorem aEO {L n:Nat} (hn:2 ≤ n) (a:Int) (hL:2 ^ 60 ≤ L):aA env L n 21 [.d (.int .i64 a)] [] = some (.d (.ivs (aC a).length (ints (aC a))),[]):=by
 obtain _ | n:=n; omega
 rw [aEf]
 simp only [SZ,Tryz.f21,SLM,simprocAttr]
 simp -implicitDefEqProofs (maxSteps:=2000000) (disch:=try exact Dz) only [↓DN,↓kAsg,↓kRet,UP,simprocAttr,↓pB,↓J6,↓R0,dM,bX]
theorem bQ {R:Type} {L n:Nat} {hq:H} {k:A → H → Option R} (hn:2 ≤ n) (a:Int) (hL:2 ^ 60 ≤ L):aL env (aA env L n) hq 21 [.d (.int .i64 a)] k = k (.d (.ivs (aC a).length (ints (aC a)))) hq :=
 aR rfl (aEO hn a hL) rfl (.inr rfl)
theorem aP2 {l:List Int} {P:Int → Prop} (h:∀ v ∈ l,P v) {k:Nat} (hk:k < l.length):P (l.getD k 0):=by
 rw [List.getD_eq_getElem?_getD,List.getElem?_eq_getElem hk]
 exact h _ (List.getElem_mem hk)
theorem jL {a:Int}:∀ v ∈ aC a,0 ≤ v ∧ v ≤ 5:=by
 intro v hv
 have:=(List.mem_filter.1 hv).1
 simp at this
 omega
structure Edge where
 fr:Int
 lt:Int
 to:Int
 deriving DecidableEq,Inhabited
def aUg (e:Edge):List D:=[.int .i64 e.fr,.int .i64 e.lt,.int .i64 e.to]
def aTX (l:List Edge):List D:=(l.map aUg).flatten
def cmpI (a b:Int):Int:=if a < b then -1 else if b < a then 1 else 0
theorem aBm {L n:Nat} (hn:1 ≤ n) (a:Int):aA env L n 67 [.d (.int .i64 a)] [] = some (.d (.bool false),[]):=by
 obtain _ | n:=n; omega
 rw [aBj]
 simp only [uK,Tryz.f67,SLM,simprocAttr]
 simp -implicitDefEqProofs (maxSteps:=2000000) (disch:=try exact Dz) only [↓DN,↓kAsg,↓kRet,UP,simprocAttr]
theorem zH {R:Type} {L n:Nat} {hq:H} {k:A → H → Option R} (hn:1 ≤ n) (a:Int):aL env (aA env L n) hq 67 [.d (.int .i64 a)] k = k (.d (.bool false)) hq :=
 aR rfl (aBm hn a) rfl (.inl rfl)
theorem WY {L n:Nat} (hn:2 ≤ n) (a b:Int):aA env L n 37 [.d (.int .i64 a),.d (.int .i64 b)] [] = some (.d (.int .i64 (cmpI a b)),[]):=by
 unfold cmpI
 by_cases h1:a < b
 ·obtain _ | n:=n; omega
  rw [vH]
  simp only [iD,Tryz.f37,SLM,simprocAttr]
  simp -implicitDefEqProofs (maxSteps:=2000000) (disch:=try exact Dz) only [↓DN,↓kAsg,↓kRet,UP,simprocAttr,↓zH,h1]
 ·by_cases h2:b < a
  ·obtain _ | n:=n; omega
   rw [vH]
   simp only [iD,Tryz.f37,SLM,simprocAttr]
   simp -implicitDefEqProofs (maxSteps:=2000000) (disch:=try exact Dz) only [↓DN,↓kAsg,↓kRet,UP,simprocAttr,↓zH,h1,h2]
  ·obtain _ | n:=n; omega
   rw [vH]
   simp only [iD,Tryz.f37,SLM,simprocAttr]
   simp -implicitDefEqProofs (maxSteps:=2000000) (disch:=try exact Dz) only [↓DN,↓kAsg,↓kRet,UP,simprocAttr,↓zH,h1,h2]
theorem WS {R:Type} {L n:Nat} {hq:H} {k:A → H → Option R} (hn:2 ≤ n) (a b:Int):aL env (aA env L n) hq 37 [.d (.int .i64 a),.d (.int .i64 b)] k = k (.d (.int .i64 (cmpI a b))) hq :=
 aR rfl (WY hn a b) rfl (.inl rfl)
def iC:List Int → Int
 | [] => 0
 | a :: l => if a = 0 then iC l else a
def lz:List Int → Nat
 | [] => 0
 | a :: l => if a = 0 then lz l + 1 else 0
theorem dZ {α:Type} {l:List α} {i:Nat} {d:α} (h:i < l.length):l.drop i = l.getD i d :: l.drop (i + 1):=by
 rw [List.drop_eq_getElem_cons h,List.getD_eq_getElem?_getD,List.getElem?_eq_getElem h]
 rfl
theorem MI {R:Type} {L n:Nat} (hn:1 ≤ n) {l:List Int} (hl:l.length ≤ 1000) {k:Exit → List A → H → Option R}:∀ (i:Int) (m:Nat) (h0:0 ≤ i) (hi:i ≤ l.length) (hm:(l.length:Int) - i < m),
  aO env (aA env L n) L 0 [] (Z2 (U2 (Z2 (U2 (U1 (Z8 (Z1 ([])))))))) (i8 0) (U2 (Z2 (U2 (Z2 (Z1 (U8 (U1 ([])))))))) m (Y2 (.d (.int .i64 0) :: .d (.int .i64 0) :: Y2 (.d (.ivs l.length (ints l)) :: .d (.int .i64 (l.length)) :: .d (.int .i64 i) :: Y8 (Y1 ([]))))) [] k
  = if iC (l.drop i.toNat) = 0 then k (.exit 0) (Y2 (.d (.int .i64 0) :: .d (.int .i64 0) :: Y2 (.d (.ivs l.length (ints l)) :: .d (.int .i64 (l.length)) :: .d (.int .i64 (l.length)) :: Y8 (Y1 ([]))))) [] else k .ret (Y2 (.d (.int .i64 (iC (l.drop i.toNat))) :: .d (.int .i64 0) :: Y2 (.d (.ivs l.length (ints l)) :: .d (.int .i64 (l.length)) :: .d (.int .i64 ((i + lz (l.drop i.toNat)))) :: Y8 (Y1 ([]))))) []:=by
 intro i m h0 hi hm
 obtain ⟨j,hj⟩:∃ j:Nat,(j:Int) = (l.length:Int) - i:=⟨((l.length:Int) - i).toNat,by omega⟩
 induction j generalizing i m with
 | zero =>
  obtain _ | m:=m; omega
  obtain rfl:i = l.length:=by omega
  rw [xM]
  simp only [kI,Tryz.f36,SLM,simprocAttr]
  simp -implicitDefEqProofs (maxSteps:=2000000) (disch:=try exact Dz) only [↓DN,↓kAsg,↓kRet,UP,simprocAttr,b9,Int.lt_irrefl]
  simp only [Int.toNat_natCast,List.drop_length,iC,if_true]
 | succ j ih =>
  obtain _ | m:=m; omega
  have hc:i < l.length:=by omega
  have hk:i.toNat < l.length:=by omega
  have e1:(i + 1).toNat = i.toNat + 1:=by omega
  rw [dZ hk (d:=0)]
  by_cases hz:l.getD i.toNat 0 = 0
  ·rw [xM]
   simp only [kI,Tryz.f36,SLM,simprocAttr]
   simp -implicitDefEqProofs (maxSteps:=2000000) (disch:=try exact Dz) only [↓DN,↓kAsg,↓kRet,UP,simprocAttr,b9,hc,hz,↓ih]
   simp only [iC,lz,if_true,e1,Int.natCast_add,Int.add_assoc,Int.add_comm 1]
   rfl
  ·rw [xM]
   simp only [kI,Tryz.f36,SLM,simprocAttr]
   simp -implicitDefEqProofs (maxSteps:=2000000) (disch:=try exact Dz) only [↓DN,↓kAsg,↓kRet,UP,simprocAttr,b9,hc,hz]
   simp only [iC,lz,hz,if_false,Int.natCast_zero,Int.add_zero]
theorem S3 {L n:Nat} (hn:2 ≤ n) (l:List Int) (hl:l.length ≤ 1000) (hL:2 ^ 60 ≤ L):aA env L n 36 [.d (.ivs l.length (ints l))] [] = some (.d (.int .i64 (iC l)),[]):=by
 by_cases hz:iC l = 0
 ·obtain _ | n:=n; omega
  rw [SI]
  simp only [rS,Tryz.f36,SLM,simprocAttr]
  simp -implicitDefEqProofs (maxSteps:=2000000) (disch:=try exact Dz) only [↓DN,↓kAsg,↓kRet,UP,simprocAttr,↓MI,b9,Int.toNat_zero,hz]
 ·obtain _ | n:=n; omega
  rw [SI]
  simp only [rS,Tryz.f36,SLM,simprocAttr]
  simp -implicitDefEqProofs (maxSteps:=2000000) (disch:=try exact Dz) only [↓DN,↓kAsg,↓kRet,UP,simprocAttr,↓MI,b9,Int.toNat_zero,hz]
theorem aG1 {R:Type} {L n:Nat} {hq:H} {k:A → H → Option R} (hn:2 ≤ n) (l:List Int) (hl:l.length ≤ 1000) (hL:2 ^ 60 ≤ L):aL env (aA env L n) hq 36 [.d (.ivs l.length (ints l))] k = k (.d (.int .i64 (iC l))) hq :=
 aR rfl (S3 hn l hl hL) rfl (.inl rfl)
theorem UC {R:Type} {L n:Nat} {k:A → Option R} (hn:2 ≤ n) (l:List Int) (hl:l.length ≤ 1000) (hL:2 ^ 60 ≤ L):bK (aA env L n) 36 [.d (.ivs l.length (ints l))] k = k (.d (.int .i64 (iC l))) :=
 fM (S3 hn l hl hL) rfl
theorem aDI {R:Type} {L n:Nat} {hq:H} {k:A → H → Option R} {id0 g0 o0 len0:Nat} :aL env (aA env L n) hq 36 [.sl id0 g0 o0 len0] k = match box (dA hq [.sl id0 g0 o0 len0]) with
  | .mk (some fs) => bK (aA env L n) 36 fs fun r => k r hq
  | _ => none:=aU uP
def seek (p:Nat → Bool):Nat → Nat → Option Nat
 | 0,_ => none
 | j + 1,i => if p i = true then some i else seek p j (i + 1)
theorem zK {p:Nat → Bool}:∀ {j i:Nat},seek p j i = none ↔ ∀ k,i ≤ k → k < i + j → p k = false
 | 0,i => by simp only [seek,true_iff]; intro k h1 h2; omega
 | j + 1,i => by
  simp only [seek]
  by_cases hp:p i = true
  ·rw [if_pos hp]
   simp only [false_iff,reduceCtorEq]
   intro h
   have:=h i (Nat.le_refl _) (by omega)
   rw [hp] at this; cases this
  ·rw [if_neg hp,zK]
   constructor
   ·intro h k h1 h2
    by_cases e:k = i
    ·subst e; simpa using hp
    ·exact h k (by omega) (by omega)
   ·intro h k h1 h2; exact h k (by omega) (by omega)
theorem UY {p:Nat → Bool}:∀ {j i r:Nat},seek p j i = some r → i ≤ r ∧ r < i + j ∧ p r = true ∧ ∀ k,i ≤ k → k < r → p k = false
 | 0,i,r,h => by simp [seek] at h
 | j + 1,i,r,h => by
  simp only [seek] at h
  by_cases hp:p i = true
  ·rw [if_pos hp] at h
   cases h
   exact ⟨Nat.le_refl _,by omega,hp,fun k h1 h2 => by omega⟩
  ·rw [if_neg hp] at h
   obtain ⟨h1,h2,h3,h4⟩:=UY h
   refine ⟨by omega,by omega,h3,fun k k1 k2 => ?_⟩
   by_cases e:k = i
   ·subst e; simpa using hp
   ·exact h4 k (by omega) k2
theorem sV {p:Nat → Bool} {j i:Nat} (h:p i = true):seek p (j + 1) i = some i:=by simp [seek,h]
theorem yY {p:Nat → Bool} {j i:Nat} (h:p i = false):seek p (j + 1) i = seek p j (i + 1):=by simp [seek,h]
structure Sys where
 al:Int
 st:Int
 es:List Edge
 deriving DecidableEq,Inhabited
theorem rO {a b:UInt8} {x y:List UInt8}:Op.bytesLess (a :: x) (b :: y) = true ↔ a.toNat < b.toNat ∨ a = b ∧ Op.bytesLess x y = true:=by
 simp only [Op.bytesLess,Bool.or_eq_true,Bool.and_eq_true,beq_iff_eq,decide_eq_true_eq]
 rfl
theorem TB:∀ x:List UInt8,¬ Op.bytesLess x x = true
 | [],h => by simp [Op.bytesLess] at h
 | a :: x,h => by
  rcases rO.1 h with h | ⟨_,h⟩
  ·omega
  ·exact TB x h
theorem L5:∀ {x y z:List UInt8},Op.bytesLess x y = true → Op.bytesLess y z = true → Op.bytesLess x z = true
 | _,[],_,h,_ => by simp [Op.bytesLess] at h
 | _,_ :: _,[],_,k => by simp [Op.bytesLess] at k
 | [],_ :: _,_ :: _,_,_ => by simp [Op.bytesLess]
 | a :: x,b :: y,c :: z,h,k => by
  rw [rO] at *
  rcases h with h | ⟨rfl,h⟩ <;> rcases k with k | ⟨rfl,k⟩
  ·exact .inl (by omega)
  ·exact .inl h
  ·exact .inl k
  ·exact .inr ⟨rfl,L5 h k⟩
theorem GZ:∀ (x y:List UInt8),x = y ∨ Op.bytesLess x y = true ∨ Op.bytesLess y x = true
 | [],[] => .inl rfl
 | [],_ :: _ => .inr (.inl (by simp [Op.bytesLess]))
 | _ :: _,[] => .inr (.inr (by simp [Op.bytesLess]))
 | a :: x,b :: y => by
  rw [rO,rO]
  rcases Nat.lt_trichotomy a.toNat b.toNat with h | h | h
  ·exact .inr (.inl (.inl h))
  ·have e:a = b:=UInt8.toNat_inj.1 h
   subst e
   rcases GZ x y with g | g | g
   ·exact .inl (by rw [g])
   ·exact .inr (.inl (.inr ⟨rfl,g⟩))
   ·exact .inr (.inr (.inr ⟨rfl,g⟩))
  ·exact .inr (.inr (.inl h))
theorem aK2 {x y:List UInt8}:cmpB x y < 0 ↔ Op.bytesLess x y = true:=by
 unfold cmpB
 by_cases h1:Op.bytesLess x y = true
 ·simp [h1]
 ·by_cases h2:Op.bytesLess y x = true <;> simp [h1,h2]
theorem P2 {x y:List UInt8}:cmpX x y < 0 ↔ x.length < y.length ∨ x.length = y.length ∧ Op.bytesLess x y = true:=by
 unfold cmpX
 simp only [aD6]
 rcases Nat.lt_trichotomy x.length y.length with h | h | h
 ·have e:KY (x.length:Int) (y.length:Int) = -1:=by unfold KY; rw [if_pos (by omega)]
  rw [e]; simp [h]
 ·have e:KY (x.length:Int) (y.length:Int) = 0:=by unfold KY; rw [h]; simp
  rw [e,if_pos rfl,h]
  by_cases h0:cmpB x y = 0
  ·rw [if_pos h0]
   have:=aK2 (x:=x) (y:=y)
   rw [h0] at this
   simp only [true_and,← this]
   omega
  ·rw [if_neg h0,aK2]; simp
 ·have e:KY (x.length:Int) (y.length:Int) = 1:=by unfold KY; rw [if_neg (by omega),if_pos (by omega)]
  rw [e,if_neg (by omega)]
  constructor
  ·intro h2; omega
  ·rintro (h2 | ⟨h2,_⟩) <;> omega
theorem QE (x:List UInt8):¬ cmpX x x < 0:=by
 rw [P2]
 rintro (h | ⟨_,h⟩)
 ·omega
 ·exact TB _ h
theorem MB {x y z:List UInt8} (h:cmpX x y < 0) (k:cmpX y z < 0):cmpX x z < 0:=by
 rw [P2] at *
 rcases h with h | ⟨h1,h⟩ <;> rcases k with k | ⟨k1,k⟩
 ·exact .inl (by omega)
 ·exact .inl (by omega)
 ·exact .inl (by omega)
 ·exact .inr ⟨by omega,L5 h k⟩
theorem YM (x y:List UInt8):x = y ∨ cmpX x y < 0 ∨ cmpX y x < 0:=by
 rw [P2,P2]
 rcases Nat.lt_trichotomy x.length y.length with h | h | h
 ·exact .inr (.inl (.inl h))
 ·rcases GZ x y with g | g | g
  ·exact .inl g
  ·exact .inr (.inl (.inr ⟨h,g⟩))
  ·exact .inr (.inr (.inr ⟨h.symm,g⟩))
 ·exact .inr (.inr (.inl h))
theorem aE7 {x y:List UInt8} (h:cmpX x y < 0):¬ cmpX y x < 0:=fun k => QE x (MB h k)
theorem aPq (a b c:List UInt8) (h1:leX a b = true) (h2:leX b c = true):leX a c = true:=by
 unfold leX at *
 simp only [Bool.not_eq_true',decide_eq_false_iff_not] at *
 intro h
 rcases YM a b with rfl | g | g
 ·exact h2 h
 ·exact h2 (MB h g)
 ·exact h1 g
theorem aO7 (a b:List UInt8):(leX a b || leX b a) = true:=by
 unfold leX
 by_cases h:cmpX b a < 0
 ·have:=aE7 h
  simp [this]
 ·simp [h]
theorem aQq {a b:List UInt8} (h1:leX a b = true) (h2:leX b a = true):a = b:=by
 unfold leX at *
 simp only [Bool.not_eq_true',decide_eq_false_iff_not] at *
 rcases YM a b with g | g | g
 ·exact g
 ·exact (h2 g).elim
 ·exact (h1 g).elim
theorem aTK {a b:List UInt8} (h:cmpX a b < 0):leX a b = true:=by
 unfold leX
 simp only [Bool.not_eq_true',decide_eq_false_iff_not]
 exact aE7 h
theorem aSq {a b:Int}:[D.int .i64 a,.int .i64 b] = ints [a,b]:=rfl
theorem aFN {x y:List UInt8} (h1:¬ Op.bytesLess x y = true):(x == y) = !Op.bytesLess y x:=by
 rw [Bool.eq_iff_iff]
 simp only [Bool.not_eq_true',beq_iff_eq]
 rcases GZ x y with rfl | g | g
 ·simpa using h1
 ·exact absurd g h1
 ·refine ⟨fun e => ?_,fun e => by rw [g] at e; cases e⟩
  subst e
  exact absurd g h1
theorem IN {E:Env} {t:TypeId} {h:H} {a b:List UInt8}:c9 E .gtr t h (.d (.str a)) (.d (.str b)) = some (.d (.bool (!(Op.bytesLess a b || a == b))),h):=by simp [c9,aBin]
theorem aB2 {E:Env} {t:TypeId} {h:H} {a b:List UInt8}:c9 E .neq t h (.d (.str a)) (.d (.str b)) = some (.d (.bool (!(a == b))),h):=by simp [c9,aBin]
theorem wF {E:Env} {t:TypeId} {h:H} {a b:List UInt8}:c9 E .lss t h (.d (.str a)) (.d (.str b)) = some (.d (.bool (Op.bytesLess a b)),h):=by simp [c9,aBin]
theorem UG {L n:Nat} (hn:1 ≤ n) (x:List UInt8):aA env L n 68 [.d (.str x)] [] = some (.d (.bool false),[]):=by
 obtain _ | n:=n; omega
 rw [UI]
 simp only [qC,Tryz.f68,SLM,simprocAttr]
 simp -implicitDefEqProofs (maxSteps:=2000000) (disch:=try exact Dz) only [↓DN,↓kAsg,↓kRet,UP,simprocAttr,aB2,beq_self_eq_true,Bool.not_true]
theorem tW {R:Type} {L n:Nat} {hq:H} {k:A → H → Option R} (hn:1 ≤ n) (x:List UInt8):aL env (aA env L n) hq 68 [.d (.str x)] k = k (.d (.bool false)) hq :=
 aR rfl (UG hn x) rfl (.inl rfl)
theorem QV {L n:Nat} (hn:2 ≤ n) (x y:List UInt8):aA env L n 38 [.d (.str x),.d (.str y)] [] = some (.d (.int .i64 (cmpB x y)),[]):=by
 unfold cmpB
 by_cases h1:Op.bytesLess x y = true
 ·obtain _ | n:=n; omega
  rw [r5]
  simp only [fI,Tryz.f38,SLM,simprocAttr]
  simp -implicitDefEqProofs (maxSteps:=2000000) (disch:=try exact Dz) only [↓DN,↓kAsg,↓kRet,UP,simprocAttr,↓tW,wF,h1]
 ·have hg:=aFN h1
  by_cases h2:Op.bytesLess y x = true
  ·rw [h2,Bool.not_true] at hg
   obtain _ | n:=n; omega
   rw [r5]
   simp only [fI,Tryz.f38,SLM,simprocAttr]
   simp -implicitDefEqProofs (maxSteps:=2000000) (disch:=try exact Dz) only [↓DN,↓kAsg,↓kRet,UP,simprocAttr,↓tW,wF,IN,h1,h2,hg]
  ·rw [Bool.eq_false_iff.2 h2,Bool.not_false] at hg
   obtain _ | n:=n; omega
   rw [r5]
   simp only [fI,Tryz.f38,SLM,simprocAttr]
   simp -implicitDefEqProofs (maxSteps:=2000000) (disch:=try exact Dz) only [↓DN,↓kAsg,↓kRet,UP,simprocAttr,↓tW,wF,IN,h1,h2,hg]
theorem QA {R:Type} {L n:Nat} {hq:H} {k:A → H → Option R} (hn:2 ≤ n) (x y:List UInt8):aL env (aA env L n) hq 38 [.d (.str x),.d (.str y)] k = k (.d (.int .i64 (cmpB x y))) hq :=
 aR rfl (QV hn x y) rfl (.inl rfl)
theorem aGZ {L n:Nat} (hn:4 ≤ n) (x y:List UInt8) (hL:2 ^ 60 ≤ L):aA env L n 16 [.d (.str x),.d (.str y)] [] = some (.d (.int .i64 (cmpX x y)),[]):=by
 have k3:∀ {R:Type} {n:Nat} {k:A → Option R},2 ≤ n → bK (aA env L n) 36 [.d (.ivs 2 (ints [cmpI x.length y.length,cmpB x y]))] k = k (.d (.int .i64 (iC [cmpI x.length y.length,cmpB x y]))):=fun h => UC h [cmpI x.length y.length,cmpB x y] (by simp) hL
 obtain _ | n:=n; omega
 rw [aGV]
 simp only [BH,Tryz.f16,SLM,simprocAttr]
 simp -implicitDefEqProofs (maxSteps:=2000000) (disch:=try exact Dz) only [↓DN,↓kAsg,↓kRet,UP,simprocAttr,↓WS,↓QA,↓aG1,↓UC,↓aDI,aSq,↓k3]
 rfl
theorem mC {R:Type} {L n:Nat} {hq:H} {k:A → H → Option R} (hn:4 ≤ n) (x y:List UInt8) (hL:2 ^ 60 ≤ L):aL env (aA env L n) hq 16 [.d (.str x),.d (.str y)] k = k (.d (.int .i64 (cmpX x y))) hq :=
 aR rfl (aGZ hn x y hL) rfl (.inl rfl)
namespace X1
noncomputable def env1:Env:={ env with prim:=fun _ => none,eqs:=[] }
theorem e1P:env1.P = env.P:=rfl
theorem e1H:env1.hint = env.hint:=rfl
theorem Y6 {L n:Nat} {args:List A} {h:H}:aA env1 L (n + 1) 67 args h = aM env1 (aA env1 L n) L h.length [] ([]) KG uK (args ++ List.replicate (Tryz.f67.ntmps - args.length) (.d .undef)) h (kFin env1.P h.length false [.tmp 2]) :=
 a6 (mode:=1) (by kernel_rfl) Tryz.func67 (by kernel_rfl) (by kernel_rfl) KZ (by kernel_rfl) (by kernel_rfl)
theorem tX {L n:Nat} {args:List A} {h:H}:aA env1 L (n + 1) 37 args h = aM env1 (aA env1 L n) L h.length [] ([]) F6 iD (args ++ List.replicate (Tryz.f37.ntmps - args.length) (.d .undef)) h (kFin env1.P h.length false [.tmp 4]) :=
 a6 (mode:=1) (by kernel_rfl) Tryz.func37 (by kernel_rfl) (by kernel_rfl) FH (by kernel_rfl) (by kernel_rfl)
theorem P4 {L n:Nat} {args:List A} {h:H}:aA env1 L (n + 1) 36 args h = aM env1 (aA env1 L n) L h.length [] (false :: false :: true :: true :: false :: false :: true :: true :: true :: false :: false :: false :: false :: false :: false :: false :: false :: false :: []) i8 rS (args ++ List.replicate (Tryz.f36.ntmps - args.length) (.d .undef)) h (kFin env1.P h.length false [.tmp 2]) :=
 a6 (mode:=1) (by kernel_rfl) Tryz.func36 (by kernel_rfl) (by kernel_rfl) yL (by kernel_rfl) (by kernel_rfl)
theorem vI {R:Type} {call:a7} {L nf n:Nat} {thaw:List Nat} {live m:List Bool} {s:List A} {h:H} {k:Exit → List A → H → Option R}:aO env1 call L nf thaw live (i8 0) m (n + 1) s h k = aM env1 call L nf thaw live i8 kI s h (cB env1 call L nf thaw live (i8 0) m n k) :=
 aQ yL (by kernel_rfl)
theorem RU {L n:Nat} {args:List A} {h:H}:aA env1 L (n + 1) 68 args h = aM env1 (aA env1 L n) L h.length [] ([]) DD qC (args ++ List.replicate (Tryz.f68.ntmps - args.length) (.d .undef)) h (kFin env1.P h.length false [.tmp 2]) :=
 a6 (mode:=1) (by kernel_rfl) Tryz.func68 (by kernel_rfl) (by kernel_rfl) DG (by kernel_rfl) (by kernel_rfl)
theorem qN {L n:Nat} {args:List A} {h:H}:aA env1 L (n + 1) 38 args h = aM env1 (aA env1 L n) L h.length [] ([]) AN fI (args ++ List.replicate (Tryz.f38.ntmps - args.length) (.d .undef)) h (kFin env1.P h.length false [.tmp 4]) :=
 a6 (mode:=1) (by kernel_rfl) Tryz.func38 (by kernel_rfl) (by kernel_rfl) zN (by kernel_rfl) (by kernel_rfl)
theorem aEt {L n:Nat} {args:List A} {h:H}:aA env1 L (n + 1) 16 args h = aM env1 (aA env1 L n) L h.length [] ([]) SD BH (args ++ List.replicate (Tryz.f16.ntmps - args.length) (.d .undef)) h (kFin env1.P h.length false [.tmp 4]) :=
 a6 (mode:=1) (by kernel_rfl) Tryz.func16 (by kernel_rfl) (by kernel_rfl) SV (by kernel_rfl) (by kernel_rfl)
theorem YZ {L n:Nat} (hn:1 ≤ n) (a:Int):aA env1 L n 67 [.d (.int .i64 a)] [] = some (.d (.bool false),[]):=by
 obtain _ | n:=n; omega
 rw [Y6]
 simp only [uK,Tryz.f67,SLM,simprocAttr]
 simp -implicitDefEqProofs (maxSteps:=2000000) (disch:=try exact Dz) only [↓DN,↓kAsg,↓kRet,e1P,e1H,UP,simprocAttr]
theorem xE {R:Type} {L n:Nat} {hq:H} {k:A → H → Option R} (hn:1 ≤ n) (a:Int):aL env1 (aA env1 L n) hq 67 [.d (.int .i64 a)] k = k (.d (.bool false)) hq :=
 aR rfl (YZ hn a) rfl (.inl rfl)
theorem UK {L n:Nat} (hn:2 ≤ n) (a b:Int):aA env1 L n 37 [.d (.int .i64 a),.d (.int .i64 b)] [] = some (.d (.int .i64 (cmpI a b)),[]):=by
 unfold cmpI
 by_cases h1:a < b
 ·obtain _ | n:=n; omega
  rw [tX]
  simp only [iD,Tryz.f37,SLM,simprocAttr]
  simp -implicitDefEqProofs (maxSteps:=2000000) (disch:=try exact Dz) only [↓DN,↓kAsg,↓kRet,e1P,e1H,UP,simprocAttr,↓xE,h1]
 ·by_cases h2:b < a
  ·obtain _ | n:=n; omega
   rw [tX]
   simp only [iD,Tryz.f37,SLM,simprocAttr]
   simp -implicitDefEqProofs (maxSteps:=2000000) (disch:=try exact Dz) only [↓DN,↓kAsg,↓kRet,e1P,e1H,UP,simprocAttr,↓xE,h1,h2]
  ·obtain _ | n:=n; omega
   rw [tX]
   simp only [iD,Tryz.f37,SLM,simprocAttr]
   simp -implicitDefEqProofs (maxSteps:=2000000) (disch:=try exact Dz) only [↓DN,↓kAsg,↓kRet,e1P,e1H,UP,simprocAttr,↓xE,h1,h2]
theorem UH {R:Type} {L n:Nat} {hq:H} {k:A → H → Option R} (hn:2 ≤ n) (a b:Int):aL env1 (aA env1 L n) hq 37 [.d (.int .i64 a),.d (.int .i64 b)] k = k (.d (.int .i64 (cmpI a b))) hq :=
 aR rfl (UK hn a b) rfl (.inl rfl)
theorem JB {R:Type} {L n:Nat} (hn:1 ≤ n) {l:List Int} (hl:l.length ≤ 1000) {k:Exit → List A → H → Option R}:∀ (i:Int) (m:Nat) (h0:0 ≤ i) (hi:i ≤ l.length) (hm:(l.length:Int) - i < m),
  aO env1 (aA env1 L n) L 0 [] (Z2 (U2 (Z2 (U2 (U1 (Z8 (Z1 ([])))))))) (i8 0) (U2 (Z2 (U2 (Z2 (Z1 (U8 (U1 ([])))))))) m (Y2 (.d (.int .i64 0) :: .d (.int .i64 0) :: Y2 (.d (.ivs l.length (ints l)) :: .d (.int .i64 (l.length)) :: .d (.int .i64 i) :: Y8 (Y1 ([]))))) [] k
  = if iC (l.drop i.toNat) = 0 then k (.exit 0) (Y2 (.d (.int .i64 0) :: .d (.int .i64 0) :: Y2 (.d (.ivs l.length (ints l)) :: .d (.int .i64 (l.length)) :: .d (.int .i64 (l.length)) :: Y8 (Y1 ([]))))) [] else k .ret (Y2 (.d (.int .i64 (iC (l.drop i.toNat))) :: .d (.int .i64 0) :: Y2 (.d (.ivs l.length (ints l)) :: .d (.int .i64 (l.length)) :: .d (.int .i64 ((i + lz (l.drop i.toNat)))) :: Y8 (Y1 ([]))))) []:=by
 intro i m h0 hi hm
 obtain ⟨j,hj⟩:∃ j:Nat,(j:Int) = (l.length:Int) - i:=⟨((l.length:Int) - i).toNat,by omega⟩
 induction j generalizing i m with
 | zero =>
  obtain _ | m:=m; omega
  obtain rfl:i = l.length:=by omega
  rw [vI]
  simp only [kI,Tryz.f36,SLM,simprocAttr]
  simp -implicitDefEqProofs (maxSteps:=2000000) (disch:=try exact Dz) only [↓DN,↓kAsg,↓kRet,e1P,e1H,UP,simprocAttr,b9,Int.lt_irrefl]
  simp only [Int.toNat_natCast,List.drop_length,iC,if_true]
 | succ j ih =>
  obtain _ | m:=m; omega
  have hc:i < l.length:=by omega
  have hk:i.toNat < l.length:=by omega
  have e1:(i + 1).toNat = i.toNat + 1:=by omega
  rw [dZ hk (d:=0)]
  by_cases hz:l.getD i.toNat 0 = 0
  ·rw [vI]
   simp only [kI,Tryz.f36,SLM,simprocAttr]
   simp -implicitDefEqProofs (maxSteps:=2000000) (disch:=try exact Dz) only [↓DN,↓kAsg,↓kRet,e1P,e1H,UP,simprocAttr,b9,hc,hz,↓ih]
   simp only [iC,lz,if_true,e1,Int.natCast_add,Int.add_assoc,Int.add_comm 1]
   rfl
  ·rw [vI]
   simp only [kI,Tryz.f36,SLM,simprocAttr]
   simp -implicitDefEqProofs (maxSteps:=2000000) (disch:=try exact Dz) only [↓DN,↓kAsg,↓kRet,e1P,e1H,UP,simprocAttr,b9,hc,hz]
   simp only [iC,lz,hz,if_false,Int.natCast_zero,Int.add_zero]
theorem PO {L n:Nat} (hn:2 ≤ n) (l:List Int) (hl:l.length ≤ 1000) (hL:2 ^ 60 ≤ L):aA env1 L n 36 [.d (.ivs l.length (ints l))] [] = some (.d (.int .i64 (iC l)),[]):=by
 by_cases hz:iC l = 0
 ·obtain _ | n:=n; omega
  rw [P4]
  simp only [rS,Tryz.f36,SLM,simprocAttr]
  simp -implicitDefEqProofs (maxSteps:=2000000) (disch:=try exact Dz) only [↓DN,↓kAsg,↓kRet,e1P,e1H,UP,simprocAttr,↓JB,b9,Int.toNat_zero,hz]
 ·obtain _ | n:=n; omega
  rw [P4]
  simp only [rS,Tryz.f36,SLM,simprocAttr]
  simp -implicitDefEqProofs (maxSteps:=2000000) (disch:=try exact Dz) only [↓DN,↓kAsg,↓kRet,e1P,e1H,UP,simprocAttr,↓JB,b9,Int.toNat_zero,hz]
theorem aD8 {R:Type} {L n:Nat} {hq:H} {k:A → H → Option R} (hn:2 ≤ n) (l:List Int) (hl:l.length ≤ 1000) (hL:2 ^ 60 ≤ L):aL env1 (aA env1 L n) hq 36 [.d (.ivs l.length (ints l))] k = k (.d (.int .i64 (iC l))) hq :=
 aR rfl (PO hn l hl hL) rfl (.inl rfl)
theorem QW {R:Type} {L n:Nat} {k:A → Option R} (hn:2 ≤ n) (l:List Int) (hl:l.length ≤ 1000) (hL:2 ^ 60 ≤ L):bK (aA env1 L n) 36 [.d (.ivs l.length (ints l))] k = k (.d (.int .i64 (iC l))) :=
 fM (PO hn l hl hL) rfl
theorem aBp {R:Type} {L n:Nat} {hq:H} {k:A → H → Option R} {id0 g0 o0 len0:Nat} :aL env1 (aA env1 L n) hq 36 [.sl id0 g0 o0 len0] k = match box (dA hq [.sl id0 g0 o0 len0]) with
  | .mk (some fs) => bK (aA env1 L n) 36 fs fun r => k r hq
  | _ => none:=aU uP
theorem RE {L n:Nat} (hn:1 ≤ n) (x:List UInt8):aA env1 L n 68 [.d (.str x)] [] = some (.d (.bool false),[]):=by
 obtain _ | n:=n; omega
 rw [RU]
 simp only [qC,Tryz.f68,SLM,simprocAttr]
 simp -implicitDefEqProofs (maxSteps:=2000000) (disch:=try exact Dz) only [↓DN,↓kAsg,↓kRet,e1P,e1H,UP,simprocAttr,aB2,beq_self_eq_true,Bool.not_true]
theorem s6 {R:Type} {L n:Nat} {hq:H} {k:A → H → Option R} (hn:1 ≤ n) (x:List UInt8):aL env1 (aA env1 L n) hq 68 [.d (.str x)] k = k (.d (.bool false)) hq :=
 aR rfl (RE hn x) rfl (.inl rfl)
theorem OT {L n:Nat} (hn:2 ≤ n) (x y:List UInt8):aA env1 L n 38 [.d (.str x),.d (.str y)] [] = some (.d (.int .i64 (cmpB x y)),[]):=by
 unfold cmpB
 by_cases h1:Op.bytesLess x y = true
 ·obtain _ | n:=n; omega
  rw [qN]
  simp only [fI,Tryz.f38,SLM,simprocAttr]
  simp -implicitDefEqProofs (maxSteps:=2000000) (disch:=try exact Dz) only [↓DN,↓kAsg,↓kRet,e1P,e1H,UP,simprocAttr,↓s6,wF,h1]
 ·have hg:=aFN h1
  by_cases h2:Op.bytesLess y x = true
  ·rw [h2,Bool.not_true] at hg
   obtain _ | n:=n; omega
   rw [qN]
   simp only [fI,Tryz.f38,SLM,simprocAttr]
   simp -implicitDefEqProofs (maxSteps:=2000000) (disch:=try exact Dz) only [↓DN,↓kAsg,↓kRet,e1P,e1H,UP,simprocAttr,↓s6,wF,IN,h1,h2,hg]
  ·rw [Bool.eq_false_iff.2 h2,Bool.not_false] at hg
   obtain _ | n:=n; omega
   rw [qN]
   simp only [fI,Tryz.f38,SLM,simprocAttr]
   simp -implicitDefEqProofs (maxSteps:=2000000) (disch:=try exact Dz) only [↓DN,↓kAsg,↓kRet,e1P,e1H,UP,simprocAttr,↓s6,wF,IN,h1,h2,hg]
theorem OO {R:Type} {L n:Nat} {hq:H} {k:A → H → Option R} (hn:2 ≤ n) (x y:List UInt8):aL env1 (aA env1 L n) hq 38 [.d (.str x),.d (.str y)] k = k (.d (.int .i64 (cmpB x y))) hq :=
 aR rfl (OT hn x y) rfl (.inl rfl)
theorem ev1_i_shortlex {L n:Nat} (hn:4 ≤ n) (x y:List UInt8) (hL:2 ^ 60 ≤ L):aA env1 L n 16 [.d (.str x),.d (.str y)] [] = some (.d (.int .i64 (cmpX x y)),[]):=by
 have k3:∀ {R:Type} {n:Nat} {k:A → Option R},2 ≤ n → bK (aA env1 L n) 36 [.d (.ivs 2 (ints [cmpI x.length y.length,cmpB x y]))] k = k (.d (.int .i64 (iC [cmpI x.length y.length,cmpB x y]))):=fun h => QW h [cmpI x.length y.length,cmpB x y] (by simp) hL
 obtain _ | n:=n; omega
 rw [aEt]
 simp only [BH,Tryz.f16,SLM,simprocAttr]
 simp -implicitDefEqProofs (maxSteps:=2000000) (disch:=try exact Dz) only [↓DN,↓kAsg,↓kRet,e1P,e1H,UP,simprocAttr,↓UH,↓OO,↓aD8,↓QW,↓aBp,aSq,↓k3]
 rfl
end X1
section
open Go.Shelf
def aJc:Go.Shelf.Ren:=⟨fun | 6 => 15 | 15 => 35 | 14 => 34 | 28 => 65 | 29 => 66 | 20 => 57 | 21 => 58 | 22 => 59 | 23 => 60 | 24 => 61 | 25 => 62 | 26 => 63 | 27 => 64 | 46 => 87 | 47 => 88 | 48 => 89 | 49 => 90 | 50 => 91 | 57 => 100 | n => n,fun | 22 => 28 | 24 => 9 | 25 => 43 | 3 => 3 | 39 => 61 | 0 => 0 | 53 => 92 | 55 => 94 | 4 => 4 | 46 => 85 | 45 => 84 | 50 => 89 | 5 => 5 | 9 => 9 | 66 => 117 | 70 => 121 | 76 => 131 | 77 => 132 | n => n,fun | n => n⟩
theorem aI0:Go.Proofs.SlLaysF.n6 Tryz.prog aJc:={
 mixed:=by kernel_rfl
 f6:=⟨Tryz.f15.name,by decide,Tryz.func15.trans (congrArg some (by kernel_rfl))⟩
 f14:=⟨Tryz.f34.name,by decide,Tryz.func34.trans (congrArg some (by kernel_rfl))⟩
 f15:=Tryz.func35.trans (congrArg some (by kernel_rfl))
 f20:=⟨Tryz.f57.name,by decide,Tryz.func57.trans (congrArg some (by kernel_rfl))⟩
 f21:=⟨Tryz.f58.name,by decide,Tryz.func58.trans (congrArg some (by kernel_rfl))⟩
 f22:=⟨Tryz.f59.name,by decide,Tryz.func59.trans (congrArg some (by kernel_rfl))⟩
 f23:=⟨Tryz.f60.name,by decide,Tryz.func60.trans (congrArg some (by kernel_rfl))⟩
 f24:=⟨Tryz.f61.name,by decide,Tryz.func61.trans (congrArg some (by kernel_rfl))⟩
 f25:=⟨Tryz.f62.name,by decide,Tryz.func62.trans (congrArg some (by kernel_rfl))⟩
 f26:=⟨Tryz.f63.name,by decide,Tryz.func63.trans (congrArg some (by kernel_rfl))⟩
 f27:=⟨Tryz.f64.name,by decide,Tryz.func64.trans (congrArg some (by kernel_rfl))⟩
 f28:=Tryz.func65.trans (congrArg some (by kernel_rfl))
 f29:=Tryz.func66.trans (congrArg some (by kernel_rfl))
 f46:=⟨Tryz.f87.name,by decide,Tryz.func87.trans (congrArg some (by kernel_rfl))⟩
 f47:=Tryz.func88.trans (congrArg some (by kernel_rfl))
 f48:=Tryz.func89.trans (congrArg some (by kernel_rfl))
 f49:=⟨Tryz.f90.name,by decide,Tryz.func90.trans (congrArg some (by kernel_rfl))⟩
 f50:=⟨Tryz.f91.name,by decide,Tryz.func91.trans (congrArg some (by kernel_rfl))⟩
 f57:=⟨Tryz.f100.name,by decide,Tryz.func100.trans (congrArg some (by kernel_rfl))⟩
 t0:=Tryz.underlying0
 a0:=Tryz.isAgg0
 z0:=Tryz.sizeOf0
 v0:=Tryz.zeroValue0
 t3:=Tryz.underlying3
 a3:=Tryz.isAgg3
 z3:=Tryz.sizeOf3
 v3:=Tryz.zeroValue3
 t4:=Tryz.underlying4
 a4:=Tryz.isAgg4
 z4:=Tryz.sizeOf4
 v4:=Tryz.zeroValue4
 t5:=Tryz.underlying5
 a5:=Tryz.isAgg5
 z5:=Tryz.sizeOf5
 v5:=Tryz.zeroValue5
 t9:=Tryz.underlying9
 a9:=Tryz.isAgg9
 z9:=Tryz.sizeOf9
 v9:=Tryz.zeroValue9
 t22:=Tryz.underlying28
 a22:=Tryz.isAgg28
 z22:=Tryz.sizeOf28
 v22:=Tryz.zeroValue28
 a24:=Tryz.isAgg9
 z24:=Tryz.sizeOf9
 t25:=Tryz.underlying43
 a25:=Tryz.isAgg43
 z25:=Tryz.sizeOf43
 v25:=Tryz.zeroValue43
 t39:=Tryz.underlying61
 a39:=Tryz.isAgg61
 z39:=Tryz.sizeOf61
 v39:=Tryz.zeroValue61
 t45:=Tryz.underlying84
 a45:=Tryz.isAgg84
 z45:=Tryz.sizeOf84
 v45:=Tryz.zeroValue84
 t46:=Tryz.underlying85
 a46:=Tryz.isAgg85
 z46:=Tryz.sizeOf85
 v46:=Tryz.zeroValue85
 t50:=Tryz.underlying89
 a50:=Tryz.isAgg89
 z50:=Tryz.sizeOf89
 v50:=Tryz.zeroValue89
 t53:=Tryz.underlying92
 a53:=Tryz.isAgg92
 z53:=Tryz.sizeOf92
 v53:=Tryz.zeroValue92
 t55:=Tryz.underlying94
 a55:=Tryz.isAgg94
 z55:=Tryz.sizeOf94
 v55:=Tryz.zeroValue94
 t66:=Tryz.underlying117
 a66:=Tryz.isAgg117
 z66:=Tryz.sizeOf117
 v66:=Tryz.zeroValue117
 t70:=Tryz.underlying121
 a70:=Tryz.isAgg121
 z70:=Tryz.sizeOf121
 v70:=Tryz.zeroValue121
 t76:=Tryz.underlying131
 a76:=Tryz.isAgg131
 z76:=Tryz.sizeOf131
 v76:=Tryz.zeroValue131
 t77:=Tryz.underlying132
 a77:=Tryz.isAgg132
 z77:=Tryz.sizeOf132
 v77:=Tryz.zeroValue132 }
end
end Ev
end Go.Proofs.YtppdfjdfjfoddaaGreat
