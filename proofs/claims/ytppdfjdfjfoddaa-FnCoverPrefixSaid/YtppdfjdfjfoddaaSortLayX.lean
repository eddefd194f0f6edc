/-
  Letters and alphabets: what the small functions give.
-/
import Derived.Test.YtppdfjdfjfoddaaLib
import Derived.Test.YtppdfjdfjfoddaaEvPrim
import Derived.Test.YtppdfjdfjfoddaaChecked
import Derived.Shelf.SlSortCmp.NoneTotal
set_option linter.unusedSimpArgs false
set_option maxRecDepth 100000
set_option linter.unusedVariables false
set_option maxHeartbeats 4000000
namespace Go.Proofs.Ytppdfjdfjfoddaa
namespace Ev
def aSD (x : Int) : Bool := decide (0 ≤ x ∧ x < 6)
def o8 (x : Int) : Bool := decide (0 ≤ x ∧ x ≤ 63)
theorem aB1 {L n : Nat} (hn : 1 ≤ n) (a : Int) : aA env L n 79 [.d (.int .i64 a)] [] = some (.d (.bool (o8 a)),[]) := by
 obtain _ | n := n; omega
 rw [aB2]
 simp only [OO,Try.f79,SLM,simprocAttr]
 simp -implicitDefEqProofs (maxSteps := 2000000) (disch := try exact Dz) only [↓DN,↓kAsg,↓kRet,UP,simprocAttr]
 by_cases h : 0 ≤ a <;> simp [h,o8]
theorem hZ {R : Type} {L n : Nat} {hq : H} {k : A → H → Option R} (hn : 1 ≤ n) (a : Int) : aM env (aA env L n) hq 79 [.d (.int .i64 a)] k = k (.d (.bool (o8 a))) hq :=
 aX rfl (aB1 hn a) rfl (.inl rfl)
theorem aBK {L n : Nat} (hn : 1 ≤ n) (a : Int) : aA env L n 49 [.d (.int .i64 a)] [] = some (.d (.bool (o8 a)),[]) := by
 obtain _ | n := n; omega
 rw [aBD]
 simp only [NW,Try.f49,SLM,simprocAttr]
 simp -implicitDefEqProofs (maxSteps := 2000000) (disch := try exact Dz) only [↓DN,↓kAsg,↓kRet,UP,simprocAttr]
 by_cases h : 0 ≤ a <;> simp [h,o8]
theorem dQ {R : Type} {L n : Nat} {hq : H} {k : A → H → Option R} (hn : 1 ≤ n) (a : Int) : aM env (aA env L n) hq 49 [.d (.int .i64 a)] k = k (.d (.bool (o8 a))) hq :=
 aX rfl (aBK hn a) rfl (.inl rfl)
def iZ (a i : Int) : Bool := decide ((a.fdiv (2 ^ (min i.toNat 64))) % 2 = 1)
theorem toNat_ofInt (x : Int) : ((BitVec.ofInt 64 x).toNat : Int) = x % 18446744073709551616 := by
 rw [BitVec.toNat_ofInt]
 omega
theorem aHf (x : Int) : iAnd .i64 x 1 = x % 2 := by
 unfold iAnd
 have h1 : (BitVec.ofInt IntKind.i64.bits x &&& BitVec.ofInt IntKind.i64.bits 1).toNat = (BitVec.ofInt 64 x).toNat % 2 := by
  change (BitVec.ofInt 64 x &&& BitVec.ofInt 64 1).toNat = _
  rw [BitVec.toNat_and]
  exact Nat.and_one_is_mod _
 rw [h1]
 have h2 := toNat_ofInt x
 rw [FO (by omega) (by omega)]
 omega
theorem aNk : IntKind.i64.bits = 64 := rfl
theorem aKc {L n : Nat} (hn : 1 ≤ n) (a i : Int) (hi : 0 ≤ i) (hi2 : i ≤ 9223372036854775807) : aA env L n 81 [.d (.int .i64 a),.d (.int .i64 i)] [] = some (.d (.bool (iZ a i)),[]) := by
 obtain _ | n := n; omega
 rw [aJ5]
 simp only [aD2,Try.f81,SLM,simprocAttr]
 simp -implicitDefEqProofs (maxSteps := 2000000) (disch := try exact Dz) only [↓DN,↓kAsg,↓kRet,UP,simprocAttr,↓aFN,aSh,aHf,aNk]
 rfl
theorem kX {R : Type} {L n : Nat} {hq : H} {k : A → H → Option R} (hn : 1 ≤ n) (a i : Int) (hi : 0 ≤ i) (hi2 : i ≤ 9223372036854775807) : aM env (aA env L n) hq 81 [.d (.int .i64 a),.d (.int .i64 i)] k = k (.d (.bool (iZ a i))) hq :=
 aX rfl (aKc hn a i hi hi2) rfl (.inl rfl)
theorem aO0 {L n : Nat} (hn : 1 ≤ n) (a i : Int) : aA env L n 68 [.d (.int .i64 a),.d (.int .i64 i)] [] = some (.d (.bool (decide (0 ≤ i) && iZ a i)),[]) := by
 obtain _ | n := n; omega
 rw [aOG]
 simp only [aJu,Try.f68,SLM,simprocAttr]
 simp -implicitDefEqProofs (maxSteps := 2000000) (disch := try exact Dz) only [↓DN,↓kAsg,↓kRet,UP,simprocAttr,aHf,aNk]
 by_cases h : 0 ≤ i <;> simp [h,iZ]
theorem Q0 {R : Type} {L n : Nat} {hq : H} {k : A → H → Option R} (hn : 1 ≤ n) (a i : Int) : aM env (aA env L n) hq 68 [.d (.int .i64 a),.d (.int .i64 i)] k = k (.d (.bool (decide (0 ≤ i) && iZ a i))) hq :=
 aX rfl (aO0 hn a i) rfl (.inl rfl)
def aC (a : Int) : List Int := [0,1,2,3,4,5].filter (iZ a)
def tJ : Nat → List Int
 | 0 => []
 | j + 1 => (6 - ((j + 1 : Nat) : Int)) :: tJ j
theorem KI {R : Type} {L n : Nat} (hn : 1 ≤ n) {a : Int} {k : Exit → List A → H → Option R} : ∀ (j : Nat) (i : Int) (l : List Int) (len m : Nat),i + j = 6 → 0 ≤ i → j < m → len = l.length → l.length + j < 100 →
  aO env (aA env L n) L 0 [0,0,0,2] (U1 (Z1 (U2 (Z1 (U1 (Z8 (Z2 (Z1 ([]))))))))) (oE 0) (Z1 (U1 (Z2 (U1 (Z1 (U8 (U2 (U1 ([]))))))))) m (.d (.int .i64 a) :: Y1 (.d .nils :: .sl 0 0 0 len :: Y1 (.d (.int .i64 i) :: Y8 (Y2 (Y1 ([])))))) [.arr (ints l) 1 0] k
  = k (.exit 0) (.d (.int .i64 a) :: Y1 (.d .nils :: .sl 0 0 0 (len + ((tJ j).filter (iZ a)).length) :: Y1 (.d (.int .i64 6) :: Y8 (Y2 (Y1 ([])))))) [.arr (ints (l ++ (tJ j).filter (iZ a))) 1 0] := by
 intro j
 induction j with
 | zero =>
  intro i l len m hi h0 hm hl hlen
  obtain _ | m := m; omega
  obtain rfl : i = 6 := by omega
  rw [uG]
  simp only [tK,Try.f39,SLM,simprocAttr]
  simp -implicitDefEqProofs (maxSteps := 2000000) (disch := try exact Dz) only [↓DN,↓kAsg,↓kRet,UP,simprocAttr,↓Q0]
  simp only [tJ,List.filter_nil,List.append_nil,List.length_nil,Nat.add_zero]
 | succ j ih =>
  intro i l len m hi h0 hm hl hlen
  obtain _ | m := m; omega
  have hc : i < 6 := by omega
  have hr : tJ (j + 1) = i :: tJ j := by simp only [tJ]; congr 1; omega
  rw [hr,List.filter_cons]
  cases hb : iZ a i with
  | true =>
   rw [uG]
   simp only [tK,Try.f39,SLM,simprocAttr]
   simp -implicitDefEqProofs (maxSteps := 2000000) (disch := try exact Dz) only [↓DN,↓kAsg,↓kRet,UP,simprocAttr,↓Q0,↓ih,hc,hb,h0,b9,fO]
   try simp only [List.append_assoc,List.cons_append,List.nil_append,Nat.add_assoc,Nat.add_comm 1]
  | false =>
   rw [uG]
   simp only [tK,Try.f39,SLM,simprocAttr]
   simp -implicitDefEqProofs (maxSteps := 2000000) (disch := try exact Dz) only [↓DN,↓kAsg,↓kRet,UP,simprocAttr,↓Q0,↓ih,hc,hb,h0]
theorem PT {R : Type} {L n m : Nat} (hn : 1 ≤ n) {a : Int} {k : Exit → List A → H → Option R} (hm : 6 < m) :
  aO env (aA env L n) L 0 [0,0,0,2] (U1 (Z1 (U2 (Z1 (U1 (Z8 (Z2 (Z1 ([]))))))))) (oE 0) (Z1 (U1 (Z2 (U1 (Z1 (U8 (U2 (U1 ([]))))))))) m (.d (.int .i64 a) :: Y1 (.d .nils :: .sl 0 0 0 0 :: Y1 (.d (.int .i64 0) :: Y8 (Y2 (Y1 ([])))))) [.arr [] 1 0] k
  = k (.exit 0) (.d (.int .i64 a) :: Y1 (.d .nils :: .sl 0 0 0 (aC a).length :: Y1 (.d (.int .i64 6) :: Y8 (Y2 (Y1 ([])))))) [.arr (ints (aC a)) 1 0] := by
 have h := KI (R := R) (L := L) hn (a := a) (k := k) 6 0 [] 0 m rfl (by omega) hm rfl (by simp)
 simp only [Nat.zero_add,List.nil_append] at h
 exact h
theorem eZ (a : Int) : (aC a).length ≤ 6 := by
 unfold aC
 exact List.length_filter_le _ _
theorem aDK {L n : Nat} (hn : 2 ≤ n) (a : Int) (hL : 2 ^ 60 ≤ L) : aA env L n 39 [.d (.int .i64 a)] [] = some (.d (.ivs (aC a).length (ints (aC a))),[]) := by
 obtain _ | n := n; omega
 rw [aDe]
 simp only [SA,Try.f39,SLM,simprocAttr]
 simp -implicitDefEqProofs (maxSteps := 2000000) (disch := try exact Dz) only [↓DN,↓kAsg,↓kRet,UP,simprocAttr,↓Q0,↓KI,↓PT,dT,b9]
theorem bX {R : Type} {L n : Nat} {hq : H} {k : A → H → Option R} (hn : 2 ≤ n) (a : Int) (hL : 2 ^ 60 ≤ L) : aM env (aA env L n) hq 39 [.d (.int .i64 a)] k = k (.d (.ivs (aC a).length (ints (aC a)))) hq :=
 aX rfl (aDK hn a hL) rfl (.inr rfl)
theorem aOB {l : List Int} {P : Int → Prop} (h : ∀ v ∈ l,P v) {k : Nat} (hk : k < l.length) : P (l.getD k 0) := by
 rw [List.getD_eq_getElem?_getD,List.getElem?_eq_getElem hk]
 exact h _ (List.getElem_mem hk)
theorem mO {a : Int} : ∀ v ∈ aC a,0 ≤ v ∧ v ≤ 5 := by
 intro v hv
 have := (List.mem_filter.1 hv).1
 simp at this
 omega
structure Edge where
 fr : Int
 lt : Int
 to : Int
 deriving DecidableEq,Inhabited
def aSJ (e : Edge) : List D := [.int .i64 e.fr,.int .i64 e.lt,.int .i64 e.to]
def aSp (l : List Edge) : List D := (l.map aSJ).flatten
def cmpI (a b : Int) : Int := if a < b then -1 else if b < a then 1 else 0
theorem aAE {L n : Nat} (hn : 1 ≤ n) (a : Int) : aA env L n 131 [.d (.int .i64 a)] [] = some (.d (.bool false),[]) := by
 obtain _ | n := n; omega
 rw [aAq]
 simp only [tO,Try.f131,SLM,simprocAttr]
 simp -implicitDefEqProofs (maxSteps := 2000000) (disch := try exact Dz) only [↓DN,↓kAsg,↓kRet,UP,simprocAttr]
theorem yI {R : Type} {L n : Nat} {hq : H} {k : A → H → Option R} (hn : 1 ≤ n) (a : Int) : aM env (aA env L n) hq 131 [.d (.int .i64 a)] k = k (.d (.bool false)) hq :=
 aX rfl (aAE hn a) rfl (.inl rfl)
theorem VH {L n : Nat} (hn : 2 ≤ n) (a b : Int) : aA env L n 101 [.d (.int .i64 a),.d (.int .i64 b)] [] = some (.d (.int .i64 (cmpI a b)),[]) := by
 unfold cmpI
 by_cases h1 : a < b
 ·obtain _ | n := n; omega
  rw [tY]
  simp only [gY,Try.f101,SLM,simprocAttr]
  simp -implicitDefEqProofs (maxSteps := 2000000) (disch := try exact Dz) only [↓DN,↓kAsg,↓kRet,UP,simprocAttr,↓yI,h1]
 ·by_cases h2 : b < a
  ·obtain _ | n := n; omega
   rw [tY]
   simp only [gY,Try.f101,SLM,simprocAttr]
   simp -implicitDefEqProofs (maxSteps := 2000000) (disch := try exact Dz) only [↓DN,↓kAsg,↓kRet,UP,simprocAttr,↓yI,h1,h2]
  ·obtain _ | n := n; omega
   rw [tY]
   simp only [gY,Try.f101,SLM,simprocAttr]
   simp -implicitDefEqProofs (maxSteps := 2000000) (disch := try exact Dz) only [↓DN,↓kAsg,↓kRet,UP,simprocAttr,↓yI,h1,h2]
theorem UR {R : Type} {L n : Nat} {hq : H} {k : A → H → Option R} (hn : 2 ≤ n) (a b : Int) : aM env (aA env L n) hq 101 [.d (.int .i64 a),.d (.int .i64 b)] k = k (.d (.int .i64 (cmpI a b))) hq :=
 aX rfl (VH hn a b) rfl (.inl rfl)
def gU : List Int → Int
 | [] => 0
 | a :: l => if a = 0 then gU l else a
def lz : List Int → Nat
 | [] => 0
 | a :: l => if a = 0 then lz l + 1 else 0
theorem d4 {α : Type} {l : List α} {i : Nat} {d : α} (h : i < l.length) : l.drop i = l.getD i d :: l.drop (i + 1) := by
 rw [List.drop_eq_getElem_cons h,List.getD_eq_getElem?_getD,List.getElem?_eq_getElem h]
 rfl
theorem LV {R : Type} {L n : Nat} (hn : 1 ≤ n) {l : List Int} (hl : l.length ≤ 1000) {k : Exit → List A → H → Option R} : ∀ (i : Int) (m : Nat) (h0 : 0 ≤ i) (hi : i ≤ l.length) (hm : (l.length : Int) - i < m),
  aO env (aA env L n) L 0 [] (Z2 (U2 (Z2 (U2 (U1 (Z8 (Z1 ([])))))))) (iT 0) (U2 (Z2 (U2 (Z2 (Z1 (U8 (U1 ([])))))))) m (Y2 (.d (.int .i64 0) :: .d (.int .i64 0) :: Y2 (.d (.ivs l.length (ints l)) :: .d (.int .i64 (l.length)) :: .d (.int .i64 i) :: Y8 (Y1 ([]))))) [] k
  = if gU (l.drop i.toNat) = 0 then k (.exit 0) (Y2 (.d (.int .i64 0) :: .d (.int .i64 0) :: Y2 (.d (.ivs l.length (ints l)) :: .d (.int .i64 (l.length)) :: .d (.int .i64 (l.length)) :: Y8 (Y1 ([]))))) [] else k .ret (Y2 (.d (.int .i64 (gU (l.drop i.toNat))) :: .d (.int .i64 0) :: Y2 (.d (.ivs l.length (ints l)) :: .d (.int .i64 (l.length)) :: .d (.int .i64 ((i + lz (l.drop i.toNat)))) :: Y8 (Y1 ([]))))) [] := by
 intro i m h0 hi hm
 obtain ⟨j,hj⟩ : ∃ j : Nat,(j : Int) = (l.length : Int) - i := ⟨((l.length : Int) - i).toNat,by omega⟩
 induction j generalizing i m with
 | zero =>
  obtain _ | m := m; omega
  obtain rfl : i = l.length := by omega
  rw [v8]
  simp only [j3,Try.f100,SLM,simprocAttr]
  simp -implicitDefEqProofs (maxSteps := 2000000) (disch := try exact Dz) only [↓DN,↓kAsg,↓kRet,UP,simprocAttr,cS,Int.lt_irrefl]
  simp only [Int.toNat_natCast,List.drop_length,gU,if_true]
 | succ j ih =>
  obtain _ | m := m; omega
  have hc : i < l.length := by omega
  have hk : i.toNat < l.length := by omega
  have e1 : (i + 1).toNat = i.toNat + 1 := by omega
  rw [d4 hk (d := 0)]
  by_cases hz : l.getD i.toNat 0 = 0
  ·rw [v8]
   simp only [j3,Try.f100,SLM,simprocAttr]
   simp -implicitDefEqProofs (maxSteps := 2000000) (disch := try exact Dz) only [↓DN,↓kAsg,↓kRet,UP,simprocAttr,cS,hc,hz,↓ih]
   simp only [gU,lz,if_true,e1,Int.natCast_add,Int.add_assoc,Int.add_comm 1]
   rfl
  ·rw [v8]
   simp only [j3,Try.f100,SLM,simprocAttr]
   simp -implicitDefEqProofs (maxSteps := 2000000) (disch := try exact Dz) only [↓DN,↓kAsg,↓kRet,UP,simprocAttr,cS,hc,hz]
   simp only [gU,lz,hz,if_false,Int.natCast_zero,Int.add_zero]
theorem RJ {L n : Nat} (hn : 2 ≤ n) (l : List Int) (hl : l.length ≤ 1000) (hL : 2 ^ 60 ≤ L) : aA env L n 100 [.d (.ivs l.length (ints l))] [] = some (.d (.int .i64 (gU l)),[]) := by
 by_cases hz : gU l = 0
 ·obtain _ | n := n; omega
  rw [RY]
  simp only [qY,Try.f100,SLM,simprocAttr]
  simp -implicitDefEqProofs (maxSteps := 2000000) (disch := try exact Dz) only [↓DN,↓kAsg,↓kRet,UP,simprocAttr,↓LV,cS,Int.toNat_zero,hz]
 ·obtain _ | n := n; omega
  rw [RY]
  simp only [qY,Try.f100,SLM,simprocAttr]
  simp -implicitDefEqProofs (maxSteps := 2000000) (disch := try exact Dz) only [↓DN,↓kAsg,↓kRet,UP,simprocAttr,↓LV,cS,Int.toNat_zero,hz]
theorem aFV {R : Type} {L n : Nat} {hq : H} {k : A → H → Option R} (hn : 2 ≤ n) (l : List Int) (hl : l.length ≤ 1000) (hL : 2 ^ 60 ≤ L) : aM env (aA env L n) hq 100 [.d (.ivs l.length (ints l))] k = k (.d (.int .i64 (gU l))) hq :=
 aX rfl (RJ hn l hl hL) rfl (.inl rfl)
theorem Q9 {R : Type} {L n : Nat} {k : A → Option R} (hn : 2 ≤ n) (l : List Int) (hl : l.length ≤ 1000) (hL : 2 ^ 60 ≤ L) : bH (aA env L n) 100 [.d (.ivs l.length (ints l))] k = k (.d (.int .i64 (gU l))) :=
 fB (RJ hn l hl hL) rfl
theorem aCM {R : Type} {L n : Nat} {hq : H} {k : A → H → Option R} {id0 g0 o0 len0 : Nat}  : aM env (aA env L n) hq 100 [.sl id0 g0 o0 len0] k = match box (c7 hq [.sl id0 g0 o0 len0]) with
  | .mk (some fs) => bH (aA env L n) 100 fs fun r => k r hq
  | _ => none := aW tD
def seek (p : Nat → Bool) : Nat → Nat → Option Nat
 | 0,_ => none
 | j + 1,i => if p i = true then some i else seek p j (i + 1)
theorem t7 {p : Nat → Bool} : ∀ {j i : Nat},seek p j i = none ↔ ∀ k,i ≤ k → k < i + j → p k = false
 | 0,i => by simp only [seek,true_iff]; intro k h1 h2; omega
 | j + 1,i => by
  simp only [seek]
  by_cases hp : p i = true
  ·rw [if_pos hp]
   simp only [false_iff,reduceCtorEq]
   intro h
   have := h i (Nat.le_refl _) (by omega)
   rw [hp] at this; cases this
  ·rw [if_neg hp,t7]
   constructor
   ·intro h k h1 h2
    by_cases e : k = i
    ·subst e; simpa using hp
    ·exact h k (by omega) (by omega)
   ·intro h k h1 h2; exact h k (by omega) (by omega)
theorem M0 {p : Nat → Bool} : ∀ {j i r : Nat},seek p j i = some r → i ≤ r ∧ r < i + j ∧ p r = true ∧ ∀ k,i ≤ k → k < r → p k = false
 | 0,i,r,h => by simp [seek] at h
 | j + 1,i,r,h => by
  simp only [seek] at h
  by_cases hp : p i = true
  ·rw [if_pos hp] at h
   cases h
   exact ⟨Nat.le_refl _,by omega,hp,fun k h1 h2 => by omega⟩
  ·rw [if_neg hp] at h
   obtain ⟨h1,h2,h3,h4⟩ := M0 h
   refine ⟨by omega,by omega,h3,fun k k1 k2 => ?_⟩
   by_cases e : k = i
   ·subst e; simpa using hp
   ·exact h4 k (by omega) k2
theorem pU {p : Nat → Bool} {j i : Nat} (h : p i = true) : seek p (j + 1) i = some i := by simp [seek,h]
theorem uU {p : Nat → Bool} {j i : Nat} (h : p i = false) : seek p (j + 1) i = seek p j (i + 1) := by simp [seek,h]
structure Sys where
 al : Int
 st : Int
 es : List Edge
 deriving DecidableEq,Inhabited
theorem rD {a b : UInt8} {x y : List UInt8} : Op.bytesLess (a :: x) (b :: y) = true ↔ a.toNat < b.toNat ∨ a = b ∧ Op.bytesLess x y = true := by
 simp only [Op.bytesLess,Bool.or_eq_true,Bool.and_eq_true,beq_iff_eq,decide_eq_true_eq]
 rfl
theorem Q2 : ∀ x : List UInt8,¬ Op.bytesLess x x = true
 | [],h => by simp [Op.bytesLess] at h
 | a :: x,h => by
  rcases rD.1 h with h | ⟨_,h⟩
  ·omega
  ·exact Q2 x h
theorem KZ : ∀ {x y z : List UInt8},Op.bytesLess x y = true → Op.bytesLess y z = true → Op.bytesLess x z = true
 | _,[],_,h,_ => by simp [Op.bytesLess] at h
 | _,_ :: _,[],_,k => by simp [Op.bytesLess] at k
 | [],_ :: _,_ :: _,_,_ => by simp [Op.bytesLess]
 | a :: x,b :: y,c :: z,h,k => by
  rw [rD] at *
  rcases h with h | ⟨rfl,h⟩ <;> rcases k with k | ⟨rfl,k⟩
  ·exact .inl (by omega)
  ·exact .inl h
  ·exact .inl k
  ·exact .inr ⟨rfl,KZ h k⟩
theorem F9 : ∀ (x y : List UInt8),x = y ∨ Op.bytesLess x y = true ∨ Op.bytesLess y x = true
 | [],[] => .inl rfl
 | [],_ :: _ => .inr (.inl (by simp [Op.bytesLess]))
 | _ :: _,[] => .inr (.inr (by simp [Op.bytesLess]))
 | a :: x,b :: y => by
  rw [rD,rD]
  rcases Nat.lt_trichotomy a.toNat b.toNat with h | h | h
  ·exact .inr (.inl (.inl h))
  ·have e : a = b := UInt8.toNat_inj.1 h
   subst e
   rcases F9 x y with g | g | g
   ·exact .inl (by rw [g])
   ·exact .inr (.inl (.inr ⟨rfl,g⟩))
   ·exact .inr (.inr (.inr ⟨rfl,g⟩))
  ·exact .inr (.inr (.inl h))
theorem aJy {x y : List UInt8} : cmpB x y < 0 ↔ Op.bytesLess x y = true := by
 unfold cmpB
 by_cases h1 : Op.bytesLess x y = true
 ·simp [h1]
 ·by_cases h2 : Op.bytesLess y x = true <;> simp [h1,h2]
theorem OL {x y : List UInt8} : cmpX x y < 0 ↔ x.length < y.length ∨ x.length = y.length ∧ Op.bytesLess x y = true := by
 unfold cmpX
 simp only [aDc]
 rcases Nat.lt_trichotomy x.length y.length with h | h | h
 ·have e : H9 (x.length : Int) (y.length : Int) = -1 := by unfold H9; rw [if_pos (by omega)]
  rw [e]; simp [h]
 ·have e : H9 (x.length : Int) (y.length : Int) = 0 := by unfold H9; rw [h]; simp
  rw [e,if_pos rfl,h]
  by_cases h0 : cmpB x y = 0
  ·rw [if_pos h0]
   have := aJy (x := x) (y := y)
   rw [h0] at this
   simp only [true_and,← this]
   omega
  ·rw [if_neg h0,aJy]; simp
 ·have e : H9 (x.length : Int) (y.length : Int) = 1 := by unfold H9; rw [if_neg (by omega),if_pos (by omega)]
  rw [e,if_neg (by omega)]
  constructor
  ·intro h2; omega
  ·rintro (h2 | ⟨h2,_⟩) <;> omega
theorem PA (x : List UInt8) : ¬ cmpX x x < 0 := by
 rw [OL]
 rintro (h | ⟨_,h⟩)
 ·omega
 ·exact Q2 _ h
theorem LH {x y z : List UInt8} (h : cmpX x y < 0) (k : cmpX y z < 0) : cmpX x z < 0 := by
 rw [OL] at *
 rcases h with h | ⟨h1,h⟩ <;> rcases k with k | ⟨k1,k⟩
 ·exact .inl (by omega)
 ·exact .inl (by omega)
 ·exact .inl (by omega)
 ·exact .inr ⟨by omega,KZ h k⟩
theorem W6 (x y : List UInt8) : x = y ∨ cmpX x y < 0 ∨ cmpX y x < 0 := by
 rw [OL,OL]
 rcases Nat.lt_trichotomy x.length y.length with h | h | h
 ·exact .inr (.inl (.inl h))
 ·rcases F9 x y with g | g | g
  ·exact .inl g
  ·exact .inr (.inl (.inr ⟨h,g⟩))
  ·exact .inr (.inr (.inr ⟨h.symm,g⟩))
 ·exact .inr (.inr (.inl h))
theorem aFh {x y : List UInt8} (h : cmpX x y < 0) : ¬ cmpX y x < 0 := fun k => PA x (LH h k)
theorem aMw (a b c : List UInt8) (h1 : leX a b = true) (h2 : leX b c = true) : leX a c = true := by
 unfold leX at *
 simp only [Bool.not_eq_true',decide_eq_false_iff_not] at *
 intro h
 rcases W6 a b with rfl | g | g
 ·exact h2 h
 ·exact h2 (LH h g)
 ·exact h1 g
theorem aN7 (a b : List UInt8) : (leX a b || leX b a) = true := by
 unfold leX
 by_cases h : cmpX b a < 0
 ·have := aFh h
  simp [this]
 ·simp [h]
theorem aPj {a b : List UInt8} (h1 : leX a b = true) (h2 : leX b a = true) : a = b := by
 unfold leX at *
 simp only [Bool.not_eq_true',decide_eq_false_iff_not] at *
 rcases W6 a b with g | g | g
 ·exact g
 ·exact (h2 g).elim
 ·exact (h1 g).elim
theorem aSg {a b : List UInt8} (h : cmpX a b < 0) : leX a b = true := by
 unfold leX
 simp only [Bool.not_eq_true',decide_eq_false_iff_not]
 exact aFh h
theorem aQJ {a b : Int} : [D.int .i64 a,.int .i64 b] = ints [a,b] := rfl
theorem aEm {x y : List UInt8} (h1 : ¬ Op.bytesLess x y = true) : (x == y) = !Op.bytesLess y x := by
 rw [Bool.eq_iff_iff]
 simp only [Bool.not_eq_true',beq_iff_eq]
 rcases F9 x y with rfl | g | g
 ·simpa using h1
 ·exact absurd g h1
 ·refine ⟨fun e => ?_,fun e => by rw [g] at e; cases e⟩
  subst e
  exact absurd g h1
theorem G9 {E : Env} {t : TypeId} {h : H} {a b : List UInt8} : cV E .gtr t h (.d (.str a)) (.d (.str b)) = some (.d (.bool (!(Op.bytesLess a b || a == b))),h) := by simp [cV,aBin]
theorem aCN {E : Env} {t : TypeId} {h : H} {a b : List UInt8} : cV E .neq t h (.d (.str a)) (.d (.str b)) = some (.d (.bool (!(a == b))),h) := by simp [cV,aBin]
theorem u9 {E : Env} {t : TypeId} {h : H} {a b : List UInt8} : cV E .lss t h (.d (.str a)) (.d (.str b)) = some (.d (.bool (Op.bytesLess a b)),h) := by simp [cV,aBin]
theorem SU {L n : Nat} (hn : 1 ≤ n) (x : List UInt8) : aA env L n 132 [.d (.str x)] [] = some (.d (.bool false),[]) := by
 obtain _ | n := n; omega
 rw [SS]
 simp only [pJ,Try.f132,SLM,simprocAttr]
 simp -implicitDefEqProofs (maxSteps := 2000000) (disch := try exact Dz) only [↓DN,↓kAsg,↓kRet,UP,simprocAttr,aCN,beq_self_eq_true,Bool.not_true]
theorem sX {R : Type} {L n : Nat} {hq : H} {k : A → H → Option R} (hn : 1 ≤ n) (x : List UInt8) : aM env (aA env L n) hq 132 [.d (.str x)] k = k (.d (.bool false)) hq :=
 aX rfl (SU hn x) rfl (.inl rfl)
theorem O1 {L n : Nat} (hn : 2 ≤ n) (x y : List UInt8) : aA env L n 102 [.d (.str x),.d (.str y)] [] = some (.d (.int .i64 (cmpB x y)),[]) := by
 unfold cmpB
 by_cases h1 : Op.bytesLess x y = true
 ·obtain _ | n := n; omega
  rw [qM]
  simp only [eV,Try.f102,SLM,simprocAttr]
  simp -implicitDefEqProofs (maxSteps := 2000000) (disch := try exact Dz) only [↓DN,↓kAsg,↓kRet,UP,simprocAttr,↓sX,u9,h1]
 ·have hg := aEm h1
  by_cases h2 : Op.bytesLess y x = true
  ·rw [h2,Bool.not_true] at hg
   obtain _ | n := n; omega
   rw [qM]
   simp only [eV,Try.f102,SLM,simprocAttr]
   simp -implicitDefEqProofs (maxSteps := 2000000) (disch := try exact Dz) only [↓DN,↓kAsg,↓kRet,UP,simprocAttr,↓sX,u9,G9,h1,h2,hg]
  ·rw [Bool.eq_false_iff.2 h2,Bool.not_false] at hg
   obtain _ | n := n; omega
   rw [qM]
   simp only [eV,Try.f102,SLM,simprocAttr]
   simp -implicitDefEqProofs (maxSteps := 2000000) (disch := try exact Dz) only [↓DN,↓kAsg,↓kRet,UP,simprocAttr,↓sX,u9,G9,h1,h2,hg]
theorem OG {R : Type} {L n : Nat} {hq : H} {k : A → H → Option R} (hn : 2 ≤ n) (x y : List UInt8) : aM env (aA env L n) hq 102 [.d (.str x),.d (.str y)] k = k (.d (.int .i64 (cmpB x y))) hq :=
 aX rfl (O1 hn x y) rfl (.inl rfl)
theorem aFG {L n : Nat} (hn : 4 ≤ n) (x y : List UInt8) (hL : 2 ^ 60 ≤ L) : aA env L n 73 [.d (.str x),.d (.str y)] [] = some (.d (.int .i64 (cmpX x y)),[]) := by
 have k3 : ∀ {R : Type} {n : Nat} {k : A → Option R},2 ≤ n → bH (aA env L n) 100 [.d (.ivs 2 (ints [cmpI x.length y.length,cmpB x y]))] k = k (.d (.int .i64 (gU [cmpI x.length y.length,cmpB x y]))) := fun h => Q9 h [cmpI x.length y.length,cmpB x y] (by simp) hL
 obtain _ | n := n; omega
 rw [aFO]
 simp only [zP,Try.f73,SLM,simprocAttr]
 simp -implicitDefEqProofs (maxSteps := 2000000) (disch := try exact Dz) only [↓DN,↓kAsg,↓kRet,UP,simprocAttr,↓UR,↓OG,↓aFV,↓Q9,↓aCM,aQJ,↓k3]
 rfl
theorem sL {R : Type} {L n : Nat} {hq : H} {k : A → H → Option R} (hn : 4 ≤ n) (x y : List UInt8) (hL : 2 ^ 60 ≤ L) : aM env (aA env L n) hq 73 [.d (.str x),.d (.str y)] k = k (.d (.int .i64 (cmpX x y))) hq :=
 aX rfl (aFG hn x y hL) rfl (.inl rfl)
namespace X1
noncomputable def env1 : Env := { env with prim := fun _ => none,eqs := [] }
theorem e1P : env1.P = env.P := rfl
theorem e1H : env1.hint = env.hint := rfl
theorem XJ {L n : Nat} {args : List A} {h : H} : aA env1 L (n + 1) 131 args h = aN env1 (aA env1 L n) L h.length [] ([]) J8 tO (args ++ List.replicate (Try.f131.ntmps - args.length) (.d .undef)) h (kFin env1.P h.length false [.tmp 2]) :=
 a8 (mode := 1) (by kernel_rfl) Try.func131 (by kernel_rfl) (by kernel_rfl) JM (by kernel_rfl) (by kernel_rfl)
theorem s5 {L n : Nat} {args : List A} {h : H} : aA env1 L (n + 1) 101 args h = aN env1 (aA env1 L n) L h.length [] ([]) EQ gY (args ++ List.replicate (Try.f101.ntmps - args.length) (.d .undef)) h (kFin env1.P h.length false [.tmp 4]) :=
 a8 (mode := 1) (by kernel_rfl) Try.func101 (by kernel_rfl) (by kernel_rfl) FB (by kernel_rfl) (by kernel_rfl)
theorem NU {L n : Nat} {args : List A} {h : H} : aA env1 L (n + 1) 100 args h = aN env1 (aA env1 L n) L h.length [] (false :: false :: true :: true :: false :: false :: true :: true :: true :: false :: false :: false :: false :: false :: false :: false :: false :: false :: []) iT qY (args ++ List.replicate (Try.f100.ntmps - args.length) (.d .undef)) h (kFin env1.P h.length false [.tmp 2]) :=
 a8 (mode := 1) (by kernel_rfl) Try.func100 (by kernel_rfl) (by kernel_rfl) xZ (by kernel_rfl) (by kernel_rfl)
theorem t6 {R : Type} {call : aY} {L nf n : Nat} {thaw : List Nat} {live m : List Bool} {s : List A} {h : H} {k : Exit → List A → H → Option R} : aO env1 call L nf thaw live (iT 0) m (n + 1) s h k = aN env1 call L nf thaw live iT j3 s h (cJ env1 call L nf thaw live (iT 0) m n k) :=
 aS xZ (by kernel_rfl)
theorem QV {L n : Nat} {args : List A} {h : H} : aA env1 L (n + 1) 132 args h = aN env1 (aA env1 L n) L h.length [] ([]) B2 pJ (args ++ List.replicate (Try.f132.ntmps - args.length) (.d .undef)) h (kFin env1.P h.length false [.tmp 2]) :=
 a8 (mode := 1) (by kernel_rfl) Try.func132 (by kernel_rfl) (by kernel_rfl) CM (by kernel_rfl) (by kernel_rfl)
theorem pO {L n : Nat} {args : List A} {h : H} : aA env1 L (n + 1) 102 args h = aN env1 (aA env1 L n) L h.length [] ([]) zK eV (args ++ List.replicate (Try.f102.ntmps - args.length) (.d .undef)) h (kFin env1.P h.length false [.tmp 4]) :=
 a8 (mode := 1) (by kernel_rfl) Try.func102 (by kernel_rfl) (by kernel_rfl) zH (by kernel_rfl) (by kernel_rfl)
theorem aC5 {L n : Nat} {args : List A} {h : H} : aA env1 L (n + 1) 73 args h = aN env1 (aA env1 L n) L h.length [] ([]) RQ zP (args ++ List.replicate (Try.f73.ntmps - args.length) (.d .undef)) h (kFin env1.P h.length false [.tmp 4]) :=
 a8 (mode := 1) (by kernel_rfl) Try.func73 (by kernel_rfl) (by kernel_rfl) SG (by kernel_rfl) (by kernel_rfl)
theorem XG {L n : Nat} (hn : 1 ≤ n) (a : Int) : aA env1 L n 131 [.d (.int .i64 a)] [] = some (.d (.bool false),[]) := by
 obtain _ | n := n; omega
 rw [XJ]
 simp only [tO,Try.f131,SLM,simprocAttr]
 simp -implicitDefEqProofs (maxSteps := 2000000) (disch := try exact Dz) only [↓DN,↓kAsg,↓kRet,e1P,e1H,UP,simprocAttr]
theorem wI {R : Type} {L n : Nat} {hq : H} {k : A → H → Option R} (hn : 1 ≤ n) (a : Int) : aM env1 (aA env1 L n) hq 131 [.d (.int .i64 a)] k = k (.d (.bool false)) hq :=
 aX rfl (XG hn a) rfl (.inl rfl)
theorem SQ {L n : Nat} (hn : 2 ≤ n) (a b : Int) : aA env1 L n 101 [.d (.int .i64 a),.d (.int .i64 b)] [] = some (.d (.int .i64 (cmpI a b)),[]) := by
 unfold cmpI
 by_cases h1 : a < b
 ·obtain _ | n := n; omega
  rw [s5]
  simp only [gY,Try.f101,SLM,simprocAttr]
  simp -implicitDefEqProofs (maxSteps := 2000000) (disch := try exact Dz) only [↓DN,↓kAsg,↓kRet,e1P,e1H,UP,simprocAttr,↓wI,h1]
 ·by_cases h2 : b < a
  ·obtain _ | n := n; omega
   rw [s5]
   simp only [gY,Try.f101,SLM,simprocAttr]
   simp -implicitDefEqProofs (maxSteps := 2000000) (disch := try exact Dz) only [↓DN,↓kAsg,↓kRet,e1P,e1H,UP,simprocAttr,↓wI,h1,h2]
  ·obtain _ | n := n; omega
   rw [s5]
   simp only [gY,Try.f101,SLM,simprocAttr]
   simp -implicitDefEqProofs (maxSteps := 2000000) (disch := try exact Dz) only [↓DN,↓kAsg,↓kRet,e1P,e1H,UP,simprocAttr,↓wI,h1,h2]
theorem SP {R : Type} {L n : Nat} {hq : H} {k : A → H → Option R} (hn : 2 ≤ n) (a b : Int) : aM env1 (aA env1 L n) hq 101 [.d (.int .i64 a),.d (.int .i64 b)] k = k (.d (.int .i64 (cmpI a b))) hq :=
 aX rfl (SQ hn a b) rfl (.inl rfl)
theorem JH {R : Type} {L n : Nat} (hn : 1 ≤ n) {l : List Int} (hl : l.length ≤ 1000) {k : Exit → List A → H → Option R} : ∀ (i : Int) (m : Nat) (h0 : 0 ≤ i) (hi : i ≤ l.length) (hm : (l.length : Int) - i < m),
  aO env1 (aA env1 L n) L 0 [] (Z2 (U2 (Z2 (U2 (U1 (Z8 (Z1 ([])))))))) (iT 0) (U2 (Z2 (U2 (Z2 (Z1 (U8 (U1 ([])))))))) m (Y2 (.d (.int .i64 0) :: .d (.int .i64 0) :: Y2 (.d (.ivs l.length (ints l)) :: .d (.int .i64 (l.length)) :: .d (.int .i64 i) :: Y8 (Y1 ([]))))) [] k
  = if gU (l.drop i.toNat) = 0 then k (.exit 0) (Y2 (.d (.int .i64 0) :: .d (.int .i64 0) :: Y2 (.d (.ivs l.length (ints l)) :: .d (.int .i64 (l.length)) :: .d (.int .i64 (l.length)) :: Y8 (Y1 ([]))))) [] else k .ret (Y2 (.d (.int .i64 (gU (l.drop i.toNat))) :: .d (.int .i64 0) :: Y2 (.d (.ivs l.length (ints l)) :: .d (.int .i64 (l.length)) :: .d (.int .i64 ((i + lz (l.drop i.toNat)))) :: Y8 (Y1 ([]))))) [] := by
 intro i m h0 hi hm
 obtain ⟨j,hj⟩ : ∃ j : Nat,(j : Int) = (l.length : Int) - i := ⟨((l.length : Int) - i).toNat,by omega⟩
 induction j generalizing i m with
 | zero =>
  obtain _ | m := m; omega
  obtain rfl : i = l.length := by omega
  rw [t6]
  simp only [j3,Try.f100,SLM,simprocAttr]
  simp -implicitDefEqProofs (maxSteps := 2000000) (disch := try exact Dz) only [↓DN,↓kAsg,↓kRet,e1P,e1H,UP,simprocAttr,cS,Int.lt_irrefl]
  simp only [Int.toNat_natCast,List.drop_length,gU,if_true]
 | succ j ih =>
  obtain _ | m := m; omega
  have hc : i < l.length := by omega
  have hk : i.toNat < l.length := by omega
  have e1 : (i + 1).toNat = i.toNat + 1 := by omega
  rw [d4 hk (d := 0)]
  by_cases hz : l.getD i.toNat 0 = 0
  ·rw [t6]
   simp only [j3,Try.f100,SLM,simprocAttr]
   simp -implicitDefEqProofs (maxSteps := 2000000) (disch := try exact Dz) only [↓DN,↓kAsg,↓kRet,e1P,e1H,UP,simprocAttr,cS,hc,hz,↓ih]
   simp only [gU,lz,if_true,e1,Int.natCast_add,Int.add_assoc,Int.add_comm 1]
   rfl
  ·rw [t6]
   simp only [j3,Try.f100,SLM,simprocAttr]
   simp -implicitDefEqProofs (maxSteps := 2000000) (disch := try exact Dz) only [↓DN,↓kAsg,↓kRet,e1P,e1H,UP,simprocAttr,cS,hc,hz]
   simp only [gU,lz,hz,if_false,Int.natCast_zero,Int.add_zero]
theorem O7 {L n : Nat} (hn : 2 ≤ n) (l : List Int) (hl : l.length ≤ 1000) (hL : 2 ^ 60 ≤ L) : aA env1 L n 100 [.d (.ivs l.length (ints l))] [] = some (.d (.int .i64 (gU l)),[]) := by
 by_cases hz : gU l = 0
 ·obtain _ | n := n; omega
  rw [NU]
  simp only [qY,Try.f100,SLM,simprocAttr]
  simp -implicitDefEqProofs (maxSteps := 2000000) (disch := try exact Dz) only [↓DN,↓kAsg,↓kRet,e1P,e1H,UP,simprocAttr,↓JH,cS,Int.toNat_zero,hz]
 ·obtain _ | n := n; omega
  rw [NU]
  simp only [qY,Try.f100,SLM,simprocAttr]
  simp -implicitDefEqProofs (maxSteps := 2000000) (disch := try exact Dz) only [↓DN,↓kAsg,↓kRet,e1P,e1H,UP,simprocAttr,↓JH,cS,Int.toNat_zero,hz]
theorem aDC {R : Type} {L n : Nat} {hq : H} {k : A → H → Option R} (hn : 2 ≤ n) (l : List Int) (hl : l.length ≤ 1000) (hL : 2 ^ 60 ≤ L) : aM env1 (aA env1 L n) hq 100 [.d (.ivs l.length (ints l))] k = k (.d (.int .i64 (gU l))) hq :=
 aX rfl (O7 hn l hl hL) rfl (.inl rfl)
theorem O6 {R : Type} {L n : Nat} {k : A → Option R} (hn : 2 ≤ n) (l : List Int) (hl : l.length ≤ 1000) (hL : 2 ^ 60 ≤ L) : bH (aA env1 L n) 100 [.d (.ivs l.length (ints l))] k = k (.d (.int .i64 (gU l))) :=
 fB (O7 hn l hl hL) rfl
theorem aAt {R : Type} {L n : Nat} {hq : H} {k : A → H → Option R} {id0 g0 o0 len0 : Nat}  : aM env1 (aA env1 L n) hq 100 [.sl id0 g0 o0 len0] k = match box (c7 hq [.sl id0 g0 o0 len0]) with
  | .mk (some fs) => bH (aA env1 L n) 100 fs fun r => k r hq
  | _ => none := aW tD
theorem PQ {L n : Nat} (hn : 1 ≤ n) (x : List UInt8) : aA env1 L n 132 [.d (.str x)] [] = some (.d (.bool false),[]) := by
 obtain _ | n := n; omega
 rw [QV]
 simp only [pJ,Try.f132,SLM,simprocAttr]
 simp -implicitDefEqProofs (maxSteps := 2000000) (disch := try exact Dz) only [↓DN,↓kAsg,↓kRet,e1P,e1H,UP,simprocAttr,aCN,beq_self_eq_true,Bool.not_true]
theorem rL {R : Type} {L n : Nat} {hq : H} {k : A → H → Option R} (hn : 1 ≤ n) (x : List UInt8) : aM env1 (aA env1 L n) hq 132 [.d (.str x)] k = k (.d (.bool false)) hq :=
 aX rfl (PQ hn x) rfl (.inl rfl)
theorem M6 {L n : Nat} (hn : 2 ≤ n) (x y : List UInt8) : aA env1 L n 102 [.d (.str x),.d (.str y)] [] = some (.d (.int .i64 (cmpB x y)),[]) := by
 unfold cmpB
 by_cases h1 : Op.bytesLess x y = true
 ·obtain _ | n := n; omega
  rw [pO]
  simp only [eV,Try.f102,SLM,simprocAttr]
  simp -implicitDefEqProofs (maxSteps := 2000000) (disch := try exact Dz) only [↓DN,↓kAsg,↓kRet,e1P,e1H,UP,simprocAttr,↓rL,u9,h1]
 ·have hg := aEm h1
  by_cases h2 : Op.bytesLess y x = true
  ·rw [h2,Bool.not_true] at hg
   obtain _ | n := n; omega
   rw [pO]
   simp only [eV,Try.f102,SLM,simprocAttr]
   simp -implicitDefEqProofs (maxSteps := 2000000) (disch := try exact Dz) only [↓DN,↓kAsg,↓kRet,e1P,e1H,UP,simprocAttr,↓rL,u9,G9,h1,h2,hg]
  ·rw [Bool.eq_false_iff.2 h2,Bool.not_false] at hg
   obtain _ | n := n; omega
   rw [pO]
   simp only [eV,Try.f102,SLM,simprocAttr]
   simp -implicitDefEqProofs (maxSteps := 2000000) (disch := try exact Dz) only [↓DN,↓kAsg,↓kRet,e1P,e1H,UP,simprocAttr,↓rL,u9,G9,h1,h2,hg]
theorem NN {R : Type} {L n : Nat} {hq : H} {k : A → H → Option R} (hn : 2 ≤ n) (x y : List UInt8) : aM env1 (aA env1 L n) hq 102 [.d (.str x),.d (.str y)] k = k (.d (.int .i64 (cmpB x y))) hq :=
 aX rfl (M6 hn x y) rfl (.inl rfl)
theorem ev1_i_shortlex {L n : Nat} (hn : 4 ≤ n) (x y : List UInt8) (hL : 2 ^ 60 ≤ L) : aA env1 L n 73 [.d (.str x),.d (.str y)] [] = some (.d (.int .i64 (cmpX x y)),[]) := by
 have k3 : ∀ {R : Type} {n : Nat} {k : A → Option R},2 ≤ n → bH (aA env1 L n) 100 [.d (.ivs 2 (ints [cmpI x.length y.length,cmpB x y]))] k = k (.d (.int .i64 (gU [cmpI x.length y.length,cmpB x y]))) := fun h => O6 h [cmpI x.length y.length,cmpB x y] (by simp) hL
 obtain _ | n := n; omega
 rw [aC5]
 simp only [zP,Try.f73,SLM,simprocAttr]
 simp -implicitDefEqProofs (maxSteps := 2000000) (disch := try exact Dz) only [↓DN,↓kAsg,↓kRet,e1P,e1H,UP,simprocAttr,↓SP,↓NN,↓aDC,↓O6,↓aAt,aQJ,↓k3]
 rfl
end X1
section
open Go.Shelf
def aGU : Go.Shelf.Ren := ⟨fun | 6 => 72 | 15 => 99 | 14 => 98 | 28 => 129 | 29 => 130 | 20 => 121 | 21 => 122 | 22 => 123 | 23 => 124 | 24 => 125 | 25 => 126 | 26 => 127 | 27 => 128 | 46 => 144 | 47 => 145 | 48 => 146 | 49 => 147 | 50 => 148 | 57 => 153 | n => n,fun | 22 => 40 | 24 => 9 | 25 => 80 | 3 => 3 | 39 => 103 | 0 => 0 | 53 => 129 | 55 => 131 | 4 => 4 | 46 => 122 | 45 => 121 | 50 => 126 | 5 => 5 | 9 => 9 | 66 => 149 | 70 => 153 | 76 => 156 | 77 => 53 | n => n,fun | n => n⟩
theorem aHz : Go.Proofs.SlLaysF.n6 Try.prog aGU := {
 mixed := by kernel_rfl
 f6 := ⟨Try.f72.name,by decide,Try.func72.trans (congrArg some (by kernel_rfl))⟩
 f14 := ⟨Try.f98.name,by decide,Try.func98.trans (congrArg some (by kernel_rfl))⟩
 f15 := Try.func99.trans (congrArg some (by kernel_rfl))
 f20 := ⟨Try.f121.name,by decide,Try.func121.trans (congrArg some (by kernel_rfl))⟩
 f21 := ⟨Try.f122.name,by decide,Try.func122.trans (congrArg some (by kernel_rfl))⟩
 f22 := ⟨Try.f123.name,by decide,Try.func123.trans (congrArg some (by kernel_rfl))⟩
 f23 := ⟨Try.f124.name,by decide,Try.func124.trans (congrArg some (by kernel_rfl))⟩
 f24 := ⟨Try.f125.name,by decide,Try.func125.trans (congrArg some (by kernel_rfl))⟩
 f25 := ⟨Try.f126.name,by decide,Try.func126.trans (congrArg some (by kernel_rfl))⟩
 f26 := ⟨Try.f127.name,by decide,Try.func127.trans (congrArg some (by kernel_rfl))⟩
 f27 := ⟨Try.f128.name,by decide,Try.func128.trans (congrArg some (by kernel_rfl))⟩
 f28 := Try.func129.trans (congrArg some (by kernel_rfl))
 f29 := Try.func130.trans (congrArg some (by kernel_rfl))
 f46 := ⟨Try.f144.name,by decide,Try.func144.trans (congrArg some (by kernel_rfl))⟩
 f47 := Try.func145.trans (congrArg some (by kernel_rfl))
 f48 := Try.func146.trans (congrArg some (by kernel_rfl))
 f49 := ⟨Try.f147.name,by decide,Try.func147.trans (congrArg some (by kernel_rfl))⟩
 f50 := ⟨Try.f148.name,by decide,Try.func148.trans (congrArg some (by kernel_rfl))⟩
 f57 := ⟨Try.f153.name,by decide,Try.func153.trans (congrArg some (by kernel_rfl))⟩
 t0 := Try.underlying0
 a0 := Try.isAgg0
 z0 := Try.sizeOf0
 v0 := Try.zeroValue0
 t3 := Try.underlying3
 a3 := Try.isAgg3
 z3 := Try.sizeOf3
 v3 := Try.zeroValue3
 t4 := Try.underlying4
 a4 := Try.isAgg4
 z4 := Try.sizeOf4
 v4 := Try.zeroValue4
 t5 := Try.underlying5
 a5 := Try.isAgg5
 z5 := Try.sizeOf5
 v5 := Try.zeroValue5
 t9 := Try.underlying9
 a9 := Try.isAgg9
 z9 := Try.sizeOf9
 v9 := Try.zeroValue9
 t22 := Try.underlying40
 a22 := Try.isAgg40
 z22 := Try.sizeOf40
 v22 := Try.zeroValue40
 a24 := Try.isAgg9
 z24 := Try.sizeOf9
 t25 := Try.underlying80
 a25 := Try.isAgg80
 z25 := Try.sizeOf80
 v25 := Try.zeroValue80
 t39 := Try.underlying103
 a39 := Try.isAgg103
 z39 := Try.sizeOf103
 v39 := Try.zeroValue103
 t45 := Try.underlying121
 a45 := Try.isAgg121
 z45 := Try.sizeOf121
 v45 := Try.zeroValue121
 t46 := Try.underlying122
 a46 := Try.isAgg122
 z46 := Try.sizeOf122
 v46 := Try.zeroValue122
 t50 := Try.underlying126
 a50 := Try.isAgg126
 z50 := Try.sizeOf126
 v50 := Try.zeroValue126
 t53 := Try.underlying129
 a53 := Try.isAgg129
 z53 := Try.sizeOf129
 v53 := Try.zeroValue129
 t55 := Try.underlying131
 a55 := Try.isAgg131
 z55 := Try.sizeOf131
 v55 := Try.zeroValue131
 t66 := Try.underlying149
 a66 := Try.isAgg149
 z66 := Try.sizeOf149
 v66 := Try.zeroValue149
 t70 := Try.underlying153
 a70 := Try.isAgg153
 z70 := Try.sizeOf153
 v70 := Try.zeroValue153
 t76 := Try.underlying156
 a76 := Try.isAgg156
 z76 := Try.sizeOf156
 v76 := Try.zeroValue156
 t77 := Try.underlying53
 a77 := Try.isAgg53
 z77 := Try.sizeOf53
 v77 := Try.zeroValue53 }
end
end Ev
end Go.Proofs.Ytppdfjdfjfoddaa
