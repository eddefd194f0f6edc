/-
  Letters and alphabets: what the small functions give.
-/
import Derived.Test.YtppdfjdfjfoddaaLib
import Derived.Test.YtppdfjdfjfoddaaEvPrim
import Derived.Test.YtppdfjdfjfoddaaChecked
import Derived.Shelf.SlSortCmp.NoneTotal
set_option linter.unusedSimpArgs false
set_option maxRecDepth 100000
set_option linter.unusedVariables false
set_option maxHeartbeats 4000000
namespace Go.Proofs.Ytppdfjdfjfoddaa
namespace Ev
def xbz (x : Int) : Bool := decide (0 ≤ x ∧ x ≤ 63)
theorem x1ct {L n : Nat} (hn : 1 ≤ n) (a : Int) : x2 env L n 79 [.d (.int .i64 a)] [] = some (.d (.bool (xbz a)),[]) := by
 obtain _ | n := n; omega
 rw [x1dy]
 simp only [xws,Try.f79,SLM,simprocAttr]
 simp -implicitDefEqProofs (maxSteps := 2000000) (disch := first | assumption | exact ⟨by kernel_rfl⟩ | omega | (simp only [GT,LN] <;> omega) | fail) only [↓DN,↓kAsg,↓kRet,UP,simprocAttr]
 by_cases h : 0 ≤ a <;> simp [h,xbz]
theorem x5d {R : Type} {L n : Nat} {hq : H} {k : A → H → Option R} (hn : 1 ≤ n) (a : Int) : x4 env (x2 env L n) hq 79 [.d (.int .i64 a)] k = k (.d (.bool (xbz a))) hq :=
 xh rfl (x1ct hn a) rfl (.inl rfl)
theorem x1ae {L n : Nat} (hn : 1 ≤ n) (a : Int) : x2 env L n 49 [.d (.int .i64 a)] [] = some (.d (.bool (xbz a)),[]) := by
 obtain _ | n := n; omega
 rw [x1e2]
 simp only [xx1,Try.f49,SLM,simprocAttr]
 simp -implicitDefEqProofs (maxSteps := 2000000) (disch := first | assumption | exact ⟨by kernel_rfl⟩ | omega | (simp only [GT,LN] <;> omega) | fail) only [↓DN,↓kAsg,↓kRet,UP,simprocAttr]
 by_cases h : 0 ≤ a <;> simp [h,xbz]
theorem x2p {R : Type} {L n : Nat} {hq : H} {k : A → H → Option R} (hn : 1 ≤ n) (a : Int) : x4 env (x2 env L n) hq 49 [.d (.int .i64 a)] k = k (.d (.bool (xbz a))) hq :=
 xh rfl (x1ae hn a) rfl (.inl rfl)
def x6e (a i : Int) : Bool := decide ((a.fdiv (2 ^ (min i.toNat 64))) % 2 = 1)
theorem toNat_ofInt (x : Int) : ((BitVec.ofInt 64 x).toNat : Int) = x % 18446744073709551616 := by
 rw [BitVec.toNat_ofInt]
 omega
theorem x1nn (x : Int) : iAnd .i64 x 1 = x % 2 := by
 unfold iAnd
 have h1 : (BitVec.ofInt IntKind.i64.bits x &&& BitVec.ofInt IntKind.i64.bits 1).toNat = (BitVec.ofInt 64 x).toNat % 2 := by
  change (BitVec.ofInt 64 x &&& BitVec.ofInt 64 1).toNat = _
  rw [BitVec.toNat_and]
  exact Nat.and_one_is_mod _
 rw [h1]
 have h2 := toNat_ofInt x
 rw [xoa (by omega) (by omega)]
 omega
theorem x1wo : IntKind.i64.bits = 64 := rfl
theorem x1rg {L n : Nat} (hn : 1 ≤ n) (a i : Int) (hi : 0 ≤ i) (hi2 : i ≤ 9223372036854775807) : x2 env L n 81 [.d (.int .i64 a),.d (.int .i64 i)] [] = some (.d (.bool (x6e a i)),[]) := by
 obtain _ | n := n; omega
 rw [x1r5]
 simp only [x1hz,Try.f81,SLM,simprocAttr]
 simp -implicitDefEqProofs (maxSteps := 2000000) (disch := first | assumption | exact ⟨by kernel_rfl⟩ | omega | (simp only [GT,LN] <;> omega) | fail) only [↓DN,↓kAsg,↓kRet,UP,simprocAttr,↓x1je,x24s,x1nn,x1wo]
 rfl
theorem x7p {R : Type} {L n : Nat} {hq : H} {k : A → H → Option R} (hn : 1 ≤ n) (a i : Int) (hi : 0 ≤ i) (hi2 : i ≤ 9223372036854775807) : x4 env (x2 env L n) hq 81 [.d (.int .i64 a),.d (.int .i64 i)] k = k (.d (.bool (x6e a i))) hq :=
 xh rfl (x1rg hn a i hi hi2) rfl (.inl rfl)
theorem x1yi {L n : Nat} (hn : 1 ≤ n) (a i : Int) : x2 env L n 68 [.d (.int .i64 a),.d (.int .i64 i)] [] = some (.d (.bool (decide (0 ≤ i) && x6e a i)),[]) := by
 obtain _ | n := n; omega
 rw [x1zx]
 simp only [x1px,Try.f68,SLM,simprocAttr]
 simp -implicitDefEqProofs (maxSteps := 2000000) (disch := first | assumption | exact ⟨by kernel_rfl⟩ | omega | (simp only [GT,LN] <;> omega) | fail) only [↓DN,↓kAsg,↓kRet,UP,simprocAttr,x1nn,x1wo]
 by_cases h : 0 ≤ i <;> simp [h,x6e]
theorem xyo {R : Type} {L n : Nat} {hq : H} {k : A → H → Option R} (hn : 1 ≤ n) (a i : Int) : x4 env (x2 env L n) hq 68 [.d (.int .i64 a),.d (.int .i64 i)] k = k (.d (.bool (decide (0 ≤ i) && x6e a i))) hq :=
 xh rfl (x1yi hn a i) rfl (.inl rfl)
def x3 (a : Int) : List Int := [0,1,2,3,4,5].filter (x6e a)
def xe2 : Nat → List Int
 | 0 => []
 | j + 1 => (6 - ((j + 1 : Nat) : Int)) :: xe2 j
theorem xtf {R : Type} {L n : Nat} (hn : 1 ≤ n) {a : Int} {k : Exit → List A → H → Option R} : ∀ (j : Nat) (i : Int) (l : List Int) (len m : Nat),i + j = 6 → 0 ≤ i → j < m → len = l.length → l.length + j < 100 →
  xc env (x2 env L n) L 0 [0,0,0,2] (U1 (Z1 (U2 (Z1 (U1 (Z8 (Z2 (Z1 ([]))))))))) (x9z 0) (Z1 (U1 (Z2 (U1 (Z1 (U8 (U2 (U1 ([]))))))))) m (.d (.int .i64 a) :: Y1 (.d .nils :: .sl 0 0 0 len :: Y1 (.d (.int .i64 i) :: Y8 (Y2 (Y1 ([])))))) [.arr (ints l) 1 0] k
  = k (.exit 0) (.d (.int .i64 a) :: Y1 (.d .nils :: .sl 0 0 0 (len + ((xe2 j).filter (x6e a)).length) :: Y1 (.d (.int .i64 6) :: Y8 (Y2 (Y1 ([])))))) [.arr (ints (l ++ (xe2 j).filter (x6e a))) 1 0] := by
 intro j
 induction j with
 | zero =>
  intro i l len m hi h0 hm hl hlen
  obtain _ | m := m; omega
  obtain rfl : i = 6 := by omega
  rw [xeb]
  simp only [xdu,Try.f39,SLM,simprocAttr]
  simp -implicitDefEqProofs (maxSteps := 2000000) (disch := first | assumption | exact ⟨by kernel_rfl⟩ | omega | (simp only [GT,LN] <;> omega) | fail) only [↓DN,↓kAsg,↓kRet,UP,simprocAttr,↓xyo]
  simp only [xe2,List.filter_nil,List.append_nil,List.length_nil,Nat.add_zero]
 | succ j ih =>
  intro i l len m hi h0 hm hl hlen
  obtain _ | m := m; omega
  have hc : i < 6 := by omega
  have hr : xe2 (j + 1) = i :: xe2 j := by simp only [xe2]; congr 1; omega
  rw [hr,List.filter_cons]
  cases hb : x6e a i with
  | true =>
   rw [xeb]
   simp only [xdu,Try.f39,SLM,simprocAttr]
   simp -implicitDefEqProofs (maxSteps := 2000000) (disch := first | assumption | exact ⟨by kernel_rfl⟩ | omega | (simp only [GT,LN] <;> omega) | fail) only [↓DN,↓kAsg,↓kRet,UP,simprocAttr,↓xyo,↓ih,hc,hb,h0,x23,x53]
   try simp only [List.append_assoc,List.cons_append,List.nil_append,Nat.add_assoc,Nat.add_comm 1]
  | false =>
   rw [xeb]
   simp only [xdu,Try.f39,SLM,simprocAttr]
   simp -implicitDefEqProofs (maxSteps := 2000000) (disch := first | assumption | exact ⟨by kernel_rfl⟩ | omega | (simp only [GT,LN] <;> omega) | fail) only [↓DN,↓kAsg,↓kRet,UP,simprocAttr,↓xyo,↓ih,hc,hb,h0]
theorem xyq {R : Type} {L n m : Nat} (hn : 1 ≤ n) {a : Int} {k : Exit → List A → H → Option R} (hm : 6 < m) :
  xc env (x2 env L n) L 0 [0,0,0,2] (U1 (Z1 (U2 (Z1 (U1 (Z8 (Z2 (Z1 ([]))))))))) (x9z 0) (Z1 (U1 (Z2 (U1 (Z1 (U8 (U2 (U1 ([]))))))))) m (.d (.int .i64 a) :: Y1 (.d .nils :: .sl 0 0 0 0 :: Y1 (.d (.int .i64 0) :: Y8 (Y2 (Y1 ([])))))) [.arr [] 1 0] k
  = k (.exit 0) (.d (.int .i64 a) :: Y1 (.d .nils :: .sl 0 0 0 (x3 a).length :: Y1 (.d (.int .i64 6) :: Y8 (Y2 (Y1 ([])))))) [.arr (ints (x3 a)) 1 0] := by
 have h := xtf (R := R) (L := L) hn (a := a) (k := k) 6 0 [] 0 m rfl (by omega) hm rfl (by simp)
 simp only [Nat.zero_add,List.nil_append] at h
 exact h
theorem x6j (a : Int) : (x3 a).length ≤ 6 := by
 unfold x3
 exact List.length_filter_le _ _
theorem x1e5 {L n : Nat} (hn : 2 ≤ n) (a : Int) (hL : 2 ^ 60 ≤ L) : x2 env L n 39 [.d (.int .i64 a)] [] = some (.d (.ivs (x3 a).length (ints (x3 a))),[]) := by
 obtain _ | n := n; omega
 rw [x1f9]
 simp only [x10s,Try.f39,SLM,simprocAttr]
 simp -implicitDefEqProofs (maxSteps := 2000000) (disch := first | assumption | exact ⟨by kernel_rfl⟩ | omega | (simp only [GT,LN] <;> omega) | fail) only [↓DN,↓kAsg,↓kRet,UP,simprocAttr,↓xyo,↓xtf,↓xyq,x36,x23]
theorem x1c {R : Type} {L n : Nat} {hq : H} {k : A → H → Option R} (hn : 2 ≤ n) (a : Int) (hL : 2 ^ 60 ≤ L) : x4 env (x2 env L n) hq 39 [.d (.int .i64 a)] k = k (.d (.ivs (x3 a).length (ints (x3 a)))) hq :=
 xh rfl (x1e5 hn a hL) rfl (.inr rfl)
theorem x1yb {l : List Int} {P : Int → Prop} (h : ∀ v ∈ l,P v) {k : Nat} (hk : k < l.length) : P (l.getD k 0) := by
 rw [List.getD_eq_getElem?_getD,List.getElem?_eq_getElem hk]
 exact h _ (List.getElem_mem hk)
theorem x8u {a : Int} : ∀ v ∈ x3 a,0 ≤ v ∧ v ≤ 5 := by
 intro v hv
 have := (List.mem_filter.1 hv).1
 simp at this
 omega
structure Edge where
 fr : Int
 lt : Int
 to : Int
 deriving DecidableEq,Inhabited
def x257 (e : Edge) : List D := [.int .i64 e.fr,.int .i64 e.lt,.int .i64 e.to]
def x249 (l : List Edge) : List D := (l.map x257).flatten
def cmpI (a b : Int) : Int := if a < b then -1 else if b < a then 1 else 0
theorem x18z {L n : Nat} (hn : 1 ≤ n) (a : Int) : x2 env L n 131 [.d (.int .i64 a)] [] = some (.d (.bool false),[]) := by
 obtain _ | n := n; omega
 rw [x1a2]
 simp only [xe6,Try.f131,SLM,simprocAttr]
 simp -implicitDefEqProofs (maxSteps := 2000000) (disch := first | assumption | exact ⟨by kernel_rfl⟩ | omega | (simp only [GT,LN] <;> omega) | fail) only [↓DN,↓kAsg,↓kRet,UP,simprocAttr]
theorem xi8 {R : Type} {L n : Nat} {hq : H} {k : A → H → Option R} (hn : 1 ≤ n) (a : Int) : x4 env (x2 env L n) hq 131 [.d (.int .i64 a)] k = k (.d (.bool false)) hq :=
 xh rfl (x18z hn a) rfl (.inl rfl)
theorem x12b {L n : Nat} (hn : 2 ≤ n) (a b : Int) : x2 env L n 101 [.d (.int .i64 a),.d (.int .i64 b)] [] = some (.d (.int .i64 (cmpI a b)),[]) := by
 unfold cmpI
 by_cases h1 : a < b
 ·obtain _ | n := n; omega
  rw [xej]
  simp only [x55,Try.f101,SLM,simprocAttr]
  simp -implicitDefEqProofs (maxSteps := 2000000) (disch := first | assumption | exact ⟨by kernel_rfl⟩ | omega | (simp only [GT,LN] <;> omega) | fail) only [↓DN,↓kAsg,↓kRet,UP,simprocAttr,↓xi8,h1]
 ·by_cases h2 : b < a
  ·obtain _ | n := n; omega
   rw [xej]
   simp only [x55,Try.f101,SLM,simprocAttr]
   simp -implicitDefEqProofs (maxSteps := 2000000) (disch := first | assumption | exact ⟨by kernel_rfl⟩ | omega | (simp only [GT,LN] <;> omega) | fail) only [↓DN,↓kAsg,↓kRet,UP,simprocAttr,↓xi8,h1,h2]
  ·obtain _ | n := n; omega
   rw [xej]
   simp only [x55,Try.f101,SLM,simprocAttr]
   simp -implicitDefEqProofs (maxSteps := 2000000) (disch := first | assumption | exact ⟨by kernel_rfl⟩ | omega | (simp only [GT,LN] <;> omega) | fail) only [↓DN,↓kAsg,↓kRet,UP,simprocAttr,↓xi8,h1,h2]
theorem x14n {R : Type} {L n : Nat} {hq : H} {k : A → H → Option R} (hn : 2 ≤ n) (a b : Int) : x4 env (x2 env L n) hq 101 [.d (.int .i64 a),.d (.int .i64 b)] k = k (.d (.int .i64 (cmpI a b))) hq :=
 xh rfl (x12b hn a b) rfl (.inl rfl)
def x51 : List Int → Int
 | [] => 0
 | a :: l => if a = 0 then x51 l else a
def lz : List Int → Nat
 | [] => 0
 | a :: l => if a = 0 then lz l + 1 else 0
theorem x2k {α : Type} {l : List α} {i : Nat} {d : α} (h : i < l.length) : l.drop i = l.getD i d :: l.drop (i + 1) := by
 rw [List.drop_eq_getElem_cons h,List.getD_eq_getElem?_getD,List.getElem?_eq_getElem h]
 rfl
theorem xun {R : Type} {L n : Nat} (hn : 1 ≤ n) {l : List Int} (hl : l.length ≤ 1000) {k : Exit → List A → H → Option R} : ∀ (i : Int) (m : Nat) (h0 : 0 ≤ i) (hi : i ≤ l.length) (hm : (l.length : Int) - i < m),
  xc env (x2 env L n) L 0 [] (Z2 (U2 (Z2 (U2 (U1 (Z8 (Z1 ([])))))))) (x5v 0) (U2 (Z2 (U2 (Z2 (Z1 (U8 (U1 ([])))))))) m (Y2 (.d (.int .i64 0) :: .d (.int .i64 0) :: Y2 (.d (.ivs l.length (ints l)) :: .d (.int .i64 (l.length)) :: .d (.int .i64 i) :: Y8 (Y1 ([]))))) [] k
  = if x51 (l.drop i.toNat) = 0 then k (.exit 0) (Y2 (.d (.int .i64 0) :: .d (.int .i64 0) :: Y2 (.d (.ivs l.length (ints l)) :: .d (.int .i64 (l.length)) :: .d (.int .i64 (l.length)) :: Y8 (Y1 ([]))))) [] else k .ret (Y2 (.d (.int .i64 (x51 (l.drop i.toNat))) :: .d (.int .i64 0) :: Y2 (.d (.ivs l.length (ints l)) :: .d (.int .i64 (l.length)) :: .d (.int .i64 ((i + lz (l.drop i.toNat)))) :: Y8 (Y1 ([]))))) [] := by
 intro i m h0 hi hm
 obtain ⟨j,hj⟩ : ∃ j : Nat,(j : Int) = (l.length : Int) - i := ⟨((l.length : Int) - i).toNat,by omega⟩
 induction j generalizing i m with
 | zero =>
  obtain _ | m := m; omega
  obtain rfl : i = l.length := by omega
  rw [xgd]
  simp only [x6x,Try.f100,SLM,simprocAttr]
  simp -implicitDefEqProofs (maxSteps := 2000000) (disch := first | assumption | exact ⟨by kernel_rfl⟩ | omega | (simp only [GT,LN] <;> omega) | fail) only [↓DN,↓kAsg,↓kRet,UP,simprocAttr,x2m,Int.lt_irrefl]
  simp only [Int.toNat_natCast,List.drop_length,x51,if_true]
 | succ j ih =>
  obtain _ | m := m; omega
  have hc : i < l.length := by omega
  have hk : i.toNat < l.length := by omega
  have e1 : (i + 1).toNat = i.toNat + 1 := by omega
  rw [x2k hk (d := 0)]
  by_cases hz : l.getD i.toNat 0 = 0
  ·rw [xgd]
   simp only [x6x,Try.f100,SLM,simprocAttr]
   simp -implicitDefEqProofs (maxSteps := 2000000) (disch := first | assumption | exact ⟨by kernel_rfl⟩ | omega | (simp only [GT,LN] <;> omega) | fail) only [↓DN,↓kAsg,↓kRet,UP,simprocAttr,x2m,hc,hz,↓ih]
   simp only [x51,lz,if_true,e1,Int.natCast_add,Int.add_assoc,Int.add_comm 1]
   rfl
  ·rw [xgd]
   simp only [x6x,Try.f100,SLM,simprocAttr]
   simp -implicitDefEqProofs (maxSteps := 2000000) (disch := first | assumption | exact ⟨by kernel_rfl⟩ | omega | (simp only [GT,LN] <;> omega) | fail) only [↓DN,↓kAsg,↓kRet,UP,simprocAttr,x2m,hc,hz]
   simp only [x51,lz,hz,if_false,Int.natCast_zero,Int.add_zero]
theorem x118 {L n : Nat} (hn : 2 ≤ n) (l : List Int) (hl : l.length ≤ 1000) (hL : 2 ^ 60 ≤ L) : x2 env L n 100 [.d (.ivs l.length (ints l))] [] = some (.d (.int .i64 (x51 l)),[]) := by
 by_cases hz : x51 l = 0
 ·obtain _ | n := n; omega
  rw [x11i]
  simp only [xbv,Try.f100,SLM,simprocAttr]
  simp -implicitDefEqProofs (maxSteps := 2000000) (disch := first | assumption | exact ⟨by kernel_rfl⟩ | omega | (simp only [GT,LN] <;> omega) | fail) only [↓DN,↓kAsg,↓kRet,UP,simprocAttr,↓xun,x2m,Int.toNat_zero,hz]
 ·obtain _ | n := n; omega
  rw [x11i]
  simp only [xbv,Try.f100,SLM,simprocAttr]
  simp -implicitDefEqProofs (maxSteps := 2000000) (disch := first | assumption | exact ⟨by kernel_rfl⟩ | omega | (simp only [GT,LN] <;> omega) | fail) only [↓DN,↓kAsg,↓kRet,UP,simprocAttr,↓xun,x2m,Int.toNat_zero,hz]
theorem x1jd {R : Type} {L n : Nat} {hq : H} {k : A → H → Option R} (hn : 2 ≤ n) (l : List Int) (hl : l.length ≤ 1000) (hL : 2 ^ 60 ≤ L) : x4 env (x2 env L n) hq 100 [.d (.ivs l.length (ints l))] k = k (.d (.int .i64 (x51 l))) hq :=
 xh rfl (x118 hn l hl hL) rfl (.inl rfl)
theorem x11a {R : Type} {L n : Nat} {k : A → Option R} (hn : 2 ≤ n) (l : List Int) (hl : l.length ≤ 1000) (hL : 2 ^ 60 ≤ L) : xk (x2 env L n) 100 [.d (.ivs l.length (ints l))] k = k (.d (.int .i64 (x51 l))) :=
 x2c (x118 hn l hl hL) rfl
theorem x1cl {R : Type} {L n : Nat} {hq : H} {k : A → H → Option R} {id0 g0 o0 len0 : Nat}  : x4 env (x2 env L n) hq 100 [.sl id0 g0 o0 len0] k = match box (xw hq [.sl id0 g0 o0 len0]) with
  | .mk (some fs) => xk (x2 env L n) 100 fs fun r => k r hq
  | _ => none := x9 xdx
def seek (p : Nat → Bool) : Nat → Nat → Option Nat
 | 0,_ => none
 | j + 1,i => if p i = true then some i else seek p j (i + 1)
theorem xiu {p : Nat → Bool} : ∀ {j i : Nat},seek p j i = none ↔ ∀ k,i ≤ k → k < i + j → p k = false
 | 0,i => by simp only [seek,true_iff]; intro k h1 h2; omega
 | j + 1,i => by
  simp only [seek]
  by_cases hp : p i = true
  ·rw [if_pos hp]
   simp only [false_iff,reduceCtorEq]
   intro h
   have := h i (Nat.le_refl _) (by omega)
   rw [hp] at this; cases this
  ·rw [if_neg hp,xiu]
   constructor
   ·intro h k h1 h2
    by_cases e : k = i
    ·subst e; simpa using hp
    ·exact h k (by omega) (by omega)
   ·intro h k h1 h2; exact h k (by omega) (by omega)
theorem x13o {p : Nat → Bool} : ∀ {j i r : Nat},seek p j i = some r → i ≤ r ∧ r < i + j ∧ p r = true ∧ ∀ k,i ≤ k → k < r → p k = false
 | 0,i,r,h => by simp [seek] at h
 | j + 1,i,r,h => by
  simp only [seek] at h
  by_cases hp : p i = true
  ·rw [if_pos hp] at h
   cases h
   exact ⟨Nat.le_refl _,by omega,hp,fun k h1 h2 => by omega⟩
  ·rw [if_neg hp] at h
   obtain ⟨h1,h2,h3,h4⟩ := x13o h
   refine ⟨by omega,by omega,h3,fun k k1 k2 => ?_⟩
   by_cases e : k = i
   ·subst e; simpa using hp
   ·exact h4 k (by omega) k2
theorem xcj {p : Nat → Bool} {j i : Nat} (h : p i = true) : seek p (j + 1) i = some i := by simp [seek,h]
theorem xhw {p : Nat → Bool} {j i : Nat} (h : p i = false) : seek p (j + 1) i = seek p j (i + 1) := by simp [seek,h]
structure Sys where
 al : Int
 st : Int
 es : List Edge
 deriving DecidableEq,Inhabited
theorem xbt {a b : UInt8} {x y : List UInt8} : Op.bytesLess (a :: x) (b :: y) = true ↔ a.toNat < b.toNat ∨ a = b ∧ Op.bytesLess x y = true := by
 simp only [Op.bytesLess,Bool.or_eq_true,Bool.and_eq_true,beq_iff_eq,decide_eq_true_eq]
 rfl
theorem x117 : ∀ x : List UInt8,¬ Op.bytesLess x x = true
 | [],h => by simp [Op.bytesLess] at h
 | a :: x,h => by
  rcases xbt.1 h with h | ⟨_,h⟩
  ·omega
  ·exact x117 x h
theorem xv2 : ∀ {x y z : List UInt8},Op.bytesLess x y = true → Op.bytesLess y z = true → Op.bytesLess x z = true
 | _,[],_,h,_ => by simp [Op.bytesLess] at h
 | _,_ :: _,[],_,k => by simp [Op.bytesLess] at k
 | [],_ :: _,_ :: _,_,_ => by simp [Op.bytesLess]
 | a :: x,b :: y,c :: z,h,k => by
  rw [xbt] at *
  rcases h with h | ⟨rfl,h⟩ <;> rcases k with k | ⟨rfl,k⟩
  ·exact .inl (by omega)
  ·exact .inl h
  ·exact .inl k
  ·exact .inr ⟨rfl,xv2 h k⟩
theorem xpf : ∀ (x y : List UInt8),x = y ∨ Op.bytesLess x y = true ∨ Op.bytesLess y x = true
 | [],[] => .inl rfl
 | [],_ :: _ => .inr (.inl (by simp [Op.bytesLess]))
 | _ :: _,[] => .inr (.inr (by simp [Op.bytesLess]))
 | a :: x,b :: y => by
  rw [xbt,xbt]
  rcases Nat.lt_trichotomy a.toNat b.toNat with h | h | h
  ·exact .inr (.inl (.inl h))
  ·have e : a = b := UInt8.toNat_inj.1 h
   subst e
   rcases xpf x y with g | g | g
   ·exact .inl (by rw [g])
   ·exact .inr (.inl (.inr ⟨rfl,g⟩))
   ·exact .inr (.inr (.inr ⟨rfl,g⟩))
  ·exact .inr (.inr (.inl h))
theorem x1p5 {x y : List UInt8} : cmpB x y < 0 ↔ Op.bytesLess x y = true := by
 unfold cmpB
 by_cases h1 : Op.bytesLess x y = true
 ·simp [h1]
 ·by_cases h2 : Op.bytesLess y x = true <;> simp [h1,h2]
theorem xxy {x y : List UInt8} : cmpX x y < 0 ↔ x.length < y.length ∨ x.length = y.length ∧ Op.bytesLess x y = true := by
 unfold cmpX
 simp only [x1e8]
 rcases Nat.lt_trichotomy x.length y.length with h | h | h
 ·have e : xto (x.length : Int) (y.length : Int) = -1 := by unfold xto; rw [if_pos (by omega)]
  rw [e]; simp [h]
 ·have e : xto (x.length : Int) (y.length : Int) = 0 := by unfold xto; rw [h]; simp
  rw [e,if_pos rfl,h]
  by_cases h0 : cmpB x y = 0
  ·rw [if_pos h0]
   have := x1p5 (x := x) (y := y)
   rw [h0] at this
   simp only [true_and,← this]
   omega
  ·rw [if_neg h0,x1p5]; simp
 ·have e : xto (x.length : Int) (y.length : Int) = 1 := by unfold xto; rw [if_neg (by omega),if_pos (by omega)]
  rw [e,if_neg (by omega)]
  constructor
  ·intro h2; omega
  ·rintro (h2 | ⟨h2,_⟩) <;> omega
theorem xx4 (x : List UInt8) : ¬ cmpX x x < 0 := by
 rw [xxy]
 rintro (h | ⟨_,h⟩)
 ·omega
 ·exact x117 _ h
theorem xuu {x y z : List UInt8} (h : cmpX x y < 0) (k : cmpX y z < 0) : cmpX x z < 0 := by
 rw [xxy] at *
 rcases h with h | ⟨h1,h⟩ <;> rcases k with k | ⟨k1,k⟩
 ·exact .inl (by omega)
 ·exact .inl (by omega)
 ·exact .inl (by omega)
 ·exact .inr ⟨by omega,xv2 h k⟩
theorem x158 (x y : List UInt8) : x = y ∨ cmpX x y < 0 ∨ cmpX y x < 0 := by
 rw [xxy,xxy]
 rcases Nat.lt_trichotomy x.length y.length with h | h | h
 ·exact .inr (.inl (.inl h))
 ·rcases xpf x y with g | g | g
  ·exact .inl g
  ·exact .inr (.inl (.inr ⟨h,g⟩))
  ·exact .inr (.inr (.inr ⟨h.symm,g⟩))
 ·exact .inr (.inr (.inl h))
theorem x1in {x y : List UInt8} (h : cmpX x y < 0) : ¬ cmpX y x < 0 := fun k => xx4 x (xuu h k)
theorem x1vc (a b c : List UInt8) (h1 : leX a b = true) (h2 : leX b c = true) : leX a c = true := by
 unfold leX at *
 simp only [Bool.not_eq_true',decide_eq_false_iff_not] at *
 intro h
 rcases x158 a b with rfl | g | g
 ·exact h2 h
 ·exact h2 (xuu h g)
 ·exact h1 g
theorem x1vo (a b : List UInt8) : (leX a b || leX b a) = true := by
 unfold leX
 by_cases h : cmpX b a < 0
 ·have := x1in h
  simp [this]
 ·simp [h]
theorem x1yj {a b : List UInt8} (h1 : leX a b = true) (h2 : leX b a = true) : a = b := by
 unfold leX at *
 simp only [Bool.not_eq_true',decide_eq_false_iff_not] at *
 rcases x158 a b with g | g | g
 ·exact g
 ·exact (h2 g).elim
 ·exact (h1 g).elim
theorem x24h {a b : List UInt8} (h : cmpX a b < 0) : leX a b = true := by
 unfold leX
 simp only [Bool.not_eq_true',decide_eq_false_iff_not]
 exact x1in h
theorem x22l {a b : Int} : [D.int .i64 a,.int .i64 b] = ints [a,b] := rfl
theorem x1id {x y : List UInt8} (h1 : ¬ Op.bytesLess x y = true) : (x == y) = !Op.bytesLess y x := by
 rw [Bool.eq_iff_iff]
 simp only [Bool.not_eq_true',beq_iff_eq]
 rcases xpf x y with rfl | g | g
 ·simpa using h1
 ·exact absurd g h1
 ·refine ⟨fun e => ?_,fun e => by rw [g] at e; cases e⟩
  subst e
  exact absurd g h1
theorem xr2 {E : Env} {t : TypeId} {h : H} {a b : List UInt8} : x24 E .gtr t h (.d (.str a)) (.d (.str b)) = some (.d (.bool (!(Op.bytesLess a b || a == b))),h) := by simp [x24,aBin]
theorem x1ca {E : Env} {t : TypeId} {h : H} {a b : List UInt8} : x24 E .neq t h (.d (.str a)) (.d (.str b)) = some (.d (.bool (!(a == b))),h) := by simp [x24,aBin]
theorem xfg {E : Env} {t : TypeId} {h : H} {a b : List UInt8} : x24 E .lss t h (.d (.str a)) (.d (.str b)) = some (.d (.bool (Op.bytesLess a b)),h) := by simp [x24,aBin]
theorem x120 {L n : Nat} (hn : 1 ≤ n) (x : List UInt8) : x2 env L n 132 [.d (.str x)] [] = some (.d (.bool false),[]) := by
 obtain _ | n := n; omega
 rw [x122]
 simp only [xay,Try.f132,SLM,simprocAttr]
 simp -implicitDefEqProofs (maxSteps := 2000000) (disch := first | assumption | exact ⟨by kernel_rfl⟩ | omega | (simp only [GT,LN] <;> omega) | fail) only [↓DN,↓kAsg,↓kRet,UP,simprocAttr,x1ca,beq_self_eq_true,Bool.not_true]
theorem xdt {R : Type} {L n : Nat} {hq : H} {k : A → H → Option R} (hn : 1 ≤ n) (x : List UInt8) : x4 env (x2 env L n) hq 132 [.d (.str x)] k = k (.d (.bool false)) hq :=
 xh rfl (x120 hn x) rfl (.inl rfl)
theorem xwn {L n : Nat} (hn : 2 ≤ n) (x y : List UInt8) : x2 env L n 102 [.d (.str x),.d (.str y)] [] = some (.d (.int .i64 (cmpB x y)),[]) := by
 unfold cmpB
 by_cases h1 : Op.bytesLess x y = true
 ·obtain _ | n := n; omega
  rw [xbq]
  simp only [x3s,Try.f102,SLM,simprocAttr]
  simp -implicitDefEqProofs (maxSteps := 2000000) (disch := first | assumption | exact ⟨by kernel_rfl⟩ | omega | (simp only [GT,LN] <;> omega) | fail) only [↓DN,↓kAsg,↓kRet,UP,simprocAttr,↓xdt,xfg,h1]
 ·have hg := x1id h1
  by_cases h2 : Op.bytesLess y x = true
  ·rw [h2,Bool.not_true] at hg
   obtain _ | n := n; omega
   rw [xbq]
   simp only [x3s,Try.f102,SLM,simprocAttr]
   simp -implicitDefEqProofs (maxSteps := 2000000) (disch := first | assumption | exact ⟨by kernel_rfl⟩ | omega | (simp only [GT,LN] <;> omega) | fail) only [↓DN,↓kAsg,↓kRet,UP,simprocAttr,↓xdt,xfg,xr2,h1,h2,hg]
  ·rw [Bool.eq_false_iff.2 h2,Bool.not_false] at hg
   obtain _ | n := n; omega
   rw [xbq]
   simp only [x3s,Try.f102,SLM,simprocAttr]
   simp -implicitDefEqProofs (maxSteps := 2000000) (disch := first | assumption | exact ⟨by kernel_rfl⟩ | omega | (simp only [GT,LN] <;> omega) | fail) only [↓DN,↓kAsg,↓kRet,UP,simprocAttr,↓xdt,xfg,xr2,h1,h2,hg]
theorem xxd {R : Type} {L n : Nat} {hq : H} {k : A → H → Option R} (hn : 2 ≤ n) (x y : List UInt8) : x4 env (x2 env L n) hq 102 [.d (.str x),.d (.str y)] k = k (.d (.int .i64 (cmpB x y))) hq :=
 xh rfl (xwn hn x y) rfl (.inl rfl)
theorem x1jf {L n : Nat} (hn : 4 ≤ n) (x y : List UInt8) (hL : 2 ^ 60 ≤ L) : x2 env L n 73 [.d (.str x),.d (.str y)] [] = some (.d (.int .i64 (cmpX x y)),[]) := by
 have k3 : ∀ {R : Type} {n : Nat} {k : A → Option R},2 ≤ n → xk (x2 env L n) 100 [.d (.ivs 2 (ints [cmpI x.length y.length,cmpB x y]))] k = k (.d (.int .i64 (x51 [cmpI x.length y.length,cmpB x y]))) := fun h => x11a h [cmpI x.length y.length,cmpB x y] (by simp) hL
 obtain _ | n := n; omega
 rw [x1j7]
 simp only [xkc,Try.f73,SLM,simprocAttr]
 simp -implicitDefEqProofs (maxSteps := 2000000) (disch := first | assumption | exact ⟨by kernel_rfl⟩ | omega | (simp only [GT,LN] <;> omega) | fail) only [↓DN,↓kAsg,↓kRet,UP,simprocAttr,↓x14n,↓xxd,↓x1jd,↓x11a,↓x1cl,x22l,↓k3]
 rfl
theorem xd8 {R : Type} {L n : Nat} {hq : H} {k : A → H → Option R} (hn : 4 ≤ n) (x y : List UInt8) (hL : 2 ^ 60 ≤ L) : x4 env (x2 env L n) hq 73 [.d (.str x),.d (.str y)] k = k (.d (.int .i64 (cmpX x y))) hq :=
 xh rfl (x1jf hn x y hL) rfl (.inl rfl)
namespace X1
noncomputable def env1 : Env := { env with prim := fun _ => none,eqs := [] }
theorem e1P : env1.P = env.P := rfl
theorem e1H : env1.hint = env.hint := rfl
theorem x166 {L n : Nat} {args : List A} {h : H} : x2 env1 L (n + 1) 131 args h = xa env1 (x2 env1 L n) L h.length [] ([]) xsb xe6 (args ++ List.replicate (Try.f131.ntmps - args.length) (.d .undef)) h (kFin env1.P h.length false [.tmp 2]) :=
 xq (mode := 1) (by kernel_rfl) Try.func131 (by kernel_rfl) (by kernel_rfl) xt6 (by kernel_rfl) (by kernel_rfl)
theorem xdo {L n : Nat} {args : List A} {h : H} : x2 env1 L (n + 1) 101 args h = xa env1 (x2 env1 L n) L h.length [] ([]) xnw x55 (args ++ List.replicate (Try.f101.ntmps - args.length) (.d .undef)) h (kFin env1.P h.length false [.tmp 4]) :=
 xq (mode := 1) (by kernel_rfl) Try.func101 (by kernel_rfl) (by kernel_rfl) xot (by kernel_rfl) (by kernel_rfl)
theorem xxg {L n : Nat} {args : List A} {h : H} : x2 env1 L (n + 1) 100 args h = xa env1 (x2 env1 L n) L h.length [] (false :: false :: true :: true :: false :: false :: true :: true :: true :: false :: false :: false :: false :: false :: false :: false :: false :: false :: []) x5v xbv (args ++ List.replicate (Try.f100.ntmps - args.length) (.d .undef)) h (kFin env1.P h.length false [.tmp 2]) :=
 xq (mode := 1) (by kernel_rfl) Try.func100 (by kernel_rfl) (by kernel_rfl) xhk (by kernel_rfl) (by kernel_rfl)
theorem xea {R : Type} {call : x1e} {L nf n : Nat} {thaw : List Nat} {live m : List Bool} {s : List A} {h : H} {k : Exit → List A → H → Option R} : xc env1 call L nf thaw live (x5v 0) m (n + 1) s h k = xa env1 call L nf thaw live x5v x6x s h (x1d env1 call L nf thaw live (x5v 0) m n k) :=
 xi xhk (by kernel_rfl)
theorem xzv {L n : Nat} {args : List A} {h : H} : x2 env1 L (n + 1) 132 args h = xa env1 (x2 env1 L n) L h.length [] ([]) xm0 xay (args ++ List.replicate (Try.f132.ntmps - args.length) (.d .undef)) h (kFin env1.P h.length false [.tmp 2]) :=
 xq (mode := 1) (by kernel_rfl) Try.func132 (by kernel_rfl) (by kernel_rfl) xlh (by kernel_rfl) (by kernel_rfl)
theorem xbb {L n : Nat} {args : List A} {h : H} : x2 env1 L (n + 1) 102 args h = xa env1 (x2 env1 L n) L h.length [] ([]) xiv x3s (args ++ List.replicate (Try.f102.ntmps - args.length) (.d .undef)) h (kFin env1.P h.length false [.tmp 4]) :=
 xq (mode := 1) (by kernel_rfl) Try.func102 (by kernel_rfl) (by kernel_rfl) xiz (by kernel_rfl) (by kernel_rfl)
theorem x1em {L n : Nat} {args : List A} {h : H} : x2 env1 L (n + 1) 73 args h = xa env1 (x2 env1 L n) L h.length [] ([]) x10o xkc (args ++ List.replicate (Try.f73.ntmps - args.length) (.d .undef)) h (kFin env1.P h.length false [.tmp 4]) :=
 xq (mode := 1) (by kernel_rfl) Try.func73 (by kernel_rfl) (by kernel_rfl) x10z (by kernel_rfl) (by kernel_rfl)
theorem x15w {L n : Nat} (hn : 1 ≤ n) (a : Int) : x2 env1 L n 131 [.d (.int .i64 a)] [] = some (.d (.bool false),[]) := by
 obtain _ | n := n; omega
 rw [x166]
 simp only [xe6,Try.f131,SLM,simprocAttr]
 simp -implicitDefEqProofs (maxSteps := 2000000) (disch := first | assumption | exact ⟨by kernel_rfl⟩ | omega | (simp only [GT,LN] <;> omega) | fail) only [↓DN,↓kAsg,↓kRet,e1P,e1H,UP,simprocAttr]
theorem xg8 {R : Type} {L n : Nat} {hq : H} {k : A → H → Option R} (hn : 1 ≤ n) (a : Int) : x4 env1 (x2 env1 L n) hq 131 [.d (.int .i64 a)] k = k (.d (.bool false)) hq :=
 xh rfl (x15w hn a) rfl (.inl rfl)
theorem x11z {L n : Nat} (hn : 2 ≤ n) (a b : Int) : x2 env1 L n 101 [.d (.int .i64 a),.d (.int .i64 b)] [] = some (.d (.int .i64 (cmpI a b)),[]) := by
 unfold cmpI
 by_cases h1 : a < b
 ·obtain _ | n := n; omega
  rw [xdo]
  simp only [x55,Try.f101,SLM,simprocAttr]
  simp -implicitDefEqProofs (maxSteps := 2000000) (disch := first | assumption | exact ⟨by kernel_rfl⟩ | omega | (simp only [GT,LN] <;> omega) | fail) only [↓DN,↓kAsg,↓kRet,e1P,e1H,UP,simprocAttr,↓xg8,h1]
 ·by_cases h2 : b < a
  ·obtain _ | n := n; omega
   rw [xdo]
   simp only [x55,Try.f101,SLM,simprocAttr]
   simp -implicitDefEqProofs (maxSteps := 2000000) (disch := first | assumption | exact ⟨by kernel_rfl⟩ | omega | (simp only [GT,LN] <;> omega) | fail) only [↓DN,↓kAsg,↓kRet,e1P,e1H,UP,simprocAttr,↓xg8,h1,h2]
  ·obtain _ | n := n; omega
   rw [xdo]
   simp only [x55,Try.f101,SLM,simprocAttr]
   simp -implicitDefEqProofs (maxSteps := 2000000) (disch := first | assumption | exact ⟨by kernel_rfl⟩ | omega | (simp only [GT,LN] <;> omega) | fail) only [↓DN,↓kAsg,↓kRet,e1P,e1H,UP,simprocAttr,↓xg8,h1,h2]
theorem x121 {R : Type} {L n : Nat} {hq : H} {k : A → H → Option R} (hn : 2 ≤ n) (a b : Int) : x4 env1 (x2 env1 L n) hq 101 [.d (.int .i64 a),.d (.int .i64 b)] k = k (.d (.int .i64 (cmpI a b))) hq :=
 xh rfl (x11z hn a b) rfl (.inl rfl)
theorem xth {R : Type} {L n : Nat} (hn : 1 ≤ n) {l : List Int} (hl : l.length ≤ 1000) {k : Exit → List A → H → Option R} : ∀ (i : Int) (m : Nat) (h0 : 0 ≤ i) (hi : i ≤ l.length) (hm : (l.length : Int) - i < m),
  xc env1 (x2 env1 L n) L 0 [] (Z2 (U2 (Z2 (U2 (U1 (Z8 (Z1 ([])))))))) (x5v 0) (U2 (Z2 (U2 (Z2 (Z1 (U8 (U1 ([])))))))) m (Y2 (.d (.int .i64 0) :: .d (.int .i64 0) :: Y2 (.d (.ivs l.length (ints l)) :: .d (.int .i64 (l.length)) :: .d (.int .i64 i) :: Y8 (Y1 ([]))))) [] k
  = if x51 (l.drop i.toNat) = 0 then k (.exit 0) (Y2 (.d (.int .i64 0) :: .d (.int .i64 0) :: Y2 (.d (.ivs l.length (ints l)) :: .d (.int .i64 (l.length)) :: .d (.int .i64 (l.length)) :: Y8 (Y1 ([]))))) [] else k .ret (Y2 (.d (.int .i64 (x51 (l.drop i.toNat))) :: .d (.int .i64 0) :: Y2 (.d (.ivs l.length (ints l)) :: .d (.int .i64 (l.length)) :: .d (.int .i64 ((i + lz (l.drop i.toNat)))) :: Y8 (Y1 ([]))))) [] := by
 intro i m h0 hi hm
 obtain ⟨j,hj⟩ : ∃ j : Nat,(j : Int) = (l.length : Int) - i := ⟨((l.length : Int) - i).toNat,by omega⟩
 induction j generalizing i m with
 | zero =>
  obtain _ | m := m; omega
  obtain rfl : i = l.length := by omega
  rw [xea]
  simp only [x6x,Try.f100,SLM,simprocAttr]
  simp -implicitDefEqProofs (maxSteps := 2000000) (disch := first | assumption | exact ⟨by kernel_rfl⟩ | omega | (simp only [GT,LN] <;> omega) | fail) only [↓DN,↓kAsg,↓kRet,e1P,e1H,UP,simprocAttr,x2m,Int.lt_irrefl]
  simp only [Int.toNat_natCast,List.drop_length,x51,if_true]
 | succ j ih =>
  obtain _ | m := m; omega
  have hc : i < l.length := by omega
  have hk : i.toNat < l.length := by omega
  have e1 : (i + 1).toNat = i.toNat + 1 := by omega
  rw [x2k hk (d := 0)]
  by_cases hz : l.getD i.toNat 0 = 0
  ·rw [xea]
   simp only [x6x,Try.f100,SLM,simprocAttr]
   simp -implicitDefEqProofs (maxSteps := 2000000) (disch := first | assumption | exact ⟨by kernel_rfl⟩ | omega | (simp only [GT,LN] <;> omega) | fail) only [↓DN,↓kAsg,↓kRet,e1P,e1H,UP,simprocAttr,x2m,hc,hz,↓ih]
   simp only [x51,lz,if_true,e1,Int.natCast_add,Int.add_assoc,Int.add_comm 1]
   rfl
  ·rw [xea]
   simp only [x6x,Try.f100,SLM,simprocAttr]
   simp -implicitDefEqProofs (maxSteps := 2000000) (disch := first | assumption | exact ⟨by kernel_rfl⟩ | omega | (simp only [GT,LN] <;> omega) | fail) only [↓DN,↓kAsg,↓kRet,e1P,e1H,UP,simprocAttr,x2m,hc,hz]
   simp only [x51,lz,hz,if_false,Int.natCast_zero,Int.add_zero]
theorem xxv {L n : Nat} (hn : 2 ≤ n) (l : List Int) (hl : l.length ≤ 1000) (hL : 2 ^ 60 ≤ L) : x2 env1 L n 100 [.d (.ivs l.length (ints l))] [] = some (.d (.int .i64 (x51 l)),[]) := by
 by_cases hz : x51 l = 0
 ·obtain _ | n := n; omega
  rw [xxg]
  simp only [xbv,Try.f100,SLM,simprocAttr]
  simp -implicitDefEqProofs (maxSteps := 2000000) (disch := first | assumption | exact ⟨by kernel_rfl⟩ | omega | (simp only [GT,LN] <;> omega) | fail) only [↓DN,↓kAsg,↓kRet,e1P,e1H,UP,simprocAttr,↓xth,x2m,Int.toNat_zero,hz]
 ·obtain _ | n := n; omega
  rw [xxg]
  simp only [xbv,Try.f100,SLM,simprocAttr]
  simp -implicitDefEqProofs (maxSteps := 2000000) (disch := first | assumption | exact ⟨by kernel_rfl⟩ | omega | (simp only [GT,LN] <;> omega) | fail) only [↓DN,↓kAsg,↓kRet,e1P,e1H,UP,simprocAttr,↓xth,x2m,Int.toNat_zero,hz]
theorem x1fi {R : Type} {L n : Nat} {hq : H} {k : A → H → Option R} (hn : 2 ≤ n) (l : List Int) (hl : l.length ≤ 1000) (hL : 2 ^ 60 ≤ L) : x4 env1 (x2 env1 L n) hq 100 [.d (.ivs l.length (ints l))] k = k (.d (.int .i64 (x51 l))) hq :=
 xh rfl (xxv hn l hl hL) rfl (.inl rfl)
theorem xyf {R : Type} {L n : Nat} {k : A → Option R} (hn : 2 ≤ n) (l : List Int) (hl : l.length ≤ 1000) (hL : 2 ^ 60 ≤ L) : xk (x2 env1 L n) 100 [.d (.ivs l.length (ints l))] k = k (.d (.int .i64 (x51 l))) :=
 x2c (xxv hn l hl hL) rfl
theorem x19r {R : Type} {L n : Nat} {hq : H} {k : A → H → Option R} {id0 g0 o0 len0 : Nat}  : x4 env1 (x2 env1 L n) hq 100 [.sl id0 g0 o0 len0] k = match box (xw hq [.sl id0 g0 o0 len0]) with
  | .mk (some fs) => xk (x2 env1 L n) 100 fs fun r => k r hq
  | _ => none := x9 xdx
theorem xys {L n : Nat} (hn : 1 ≤ n) (x : List UInt8) : x2 env1 L n 132 [.d (.str x)] [] = some (.d (.bool false),[]) := by
 obtain _ | n := n; omega
 rw [xzv]
 simp only [xay,Try.f132,SLM,simprocAttr]
 simp -implicitDefEqProofs (maxSteps := 2000000) (disch := first | assumption | exact ⟨by kernel_rfl⟩ | omega | (simp only [GT,LN] <;> omega) | fail) only [↓DN,↓kAsg,↓kRet,e1P,e1H,UP,simprocAttr,x1ca,beq_self_eq_true,Bool.not_true]
theorem xcs {R : Type} {L n : Nat} {hq : H} {k : A → H → Option R} (hn : 1 ≤ n) (x : List UInt8) : x4 env1 (x2 env1 L n) hq 132 [.d (.str x)] k = k (.d (.bool false)) hq :=
 xh rfl (xys hn x) rfl (.inl rfl)
theorem xvy {L n : Nat} (hn : 2 ≤ n) (x y : List UInt8) : x2 env1 L n 102 [.d (.str x),.d (.str y)] [] = some (.d (.int .i64 (cmpB x y)),[]) := by
 unfold cmpB
 by_cases h1 : Op.bytesLess x y = true
 ·obtain _ | n := n; omega
  rw [xbb]
  simp only [x3s,Try.f102,SLM,simprocAttr]
  simp -implicitDefEqProofs (maxSteps := 2000000) (disch := first | assumption | exact ⟨by kernel_rfl⟩ | omega | (simp only [GT,LN] <;> omega) | fail) only [↓DN,↓kAsg,↓kRet,e1P,e1H,UP,simprocAttr,↓xcs,xfg,h1]
 ·have hg := x1id h1
  by_cases h2 : Op.bytesLess y x = true
  ·rw [h2,Bool.not_true] at hg
   obtain _ | n := n; omega
   rw [xbb]
   simp only [x3s,Try.f102,SLM,simprocAttr]
   simp -implicitDefEqProofs (maxSteps := 2000000) (disch := first | assumption | exact ⟨by kernel_rfl⟩ | omega | (simp only [GT,LN] <;> omega) | fail) only [↓DN,↓kAsg,↓kRet,e1P,e1H,UP,simprocAttr,↓xcs,xfg,xr2,h1,h2,hg]
  ·rw [Bool.eq_false_iff.2 h2,Bool.not_false] at hg
   obtain _ | n := n; omega
   rw [xbb]
   simp only [x3s,Try.f102,SLM,simprocAttr]
   simp -implicitDefEqProofs (maxSteps := 2000000) (disch := first | assumption | exact ⟨by kernel_rfl⟩ | omega | (simp only [GT,LN] <;> omega) | fail) only [↓DN,↓kAsg,↓kRet,e1P,e1H,UP,simprocAttr,↓xcs,xfg,xr2,h1,h2,hg]
theorem xw3 {R : Type} {L n : Nat} {hq : H} {k : A → H → Option R} (hn : 2 ≤ n) (x y : List UInt8) : x4 env1 (x2 env1 L n) hq 102 [.d (.str x),.d (.str y)] k = k (.d (.int .i64 (cmpB x y))) hq :=
 xh rfl (xvy hn x y) rfl (.inl rfl)
theorem ev1_i_shortlex {L n : Nat} (hn : 4 ≤ n) (x y : List UInt8) (hL : 2 ^ 60 ≤ L) : x2 env1 L n 73 [.d (.str x),.d (.str y)] [] = some (.d (.int .i64 (cmpX x y)),[]) := by
 have k3 : ∀ {R : Type} {n : Nat} {k : A → Option R},2 ≤ n → xk (x2 env1 L n) 100 [.d (.ivs 2 (ints [cmpI x.length y.length,cmpB x y]))] k = k (.d (.int .i64 (x51 [cmpI x.length y.length,cmpB x y]))) := fun h => xyf h [cmpI x.length y.length,cmpB x y] (by simp) hL
 obtain _ | n := n; omega
 rw [x1em]
 simp only [xkc,Try.f73,SLM,simprocAttr]
 simp -implicitDefEqProofs (maxSteps := 2000000) (disch := first | assumption | exact ⟨by kernel_rfl⟩ | omega | (simp only [GT,LN] <;> omega) | fail) only [↓DN,↓kAsg,↓kRet,e1P,e1H,UP,simprocAttr,↓x121,↓xw3,↓x1fi,↓xyf,↓x19r,x22l,↓k3]
 rfl
end X1
section
open Go.Shelf
def x1lj : Go.Shelf.Ren := ⟨fun | 6 => 72 | 15 => 99 | 14 => 98 | 28 => 129 | 29 => 130 | 20 => 121 | 21 => 122 | 22 => 123 | 23 => 124 | 24 => 125 | 25 => 126 | 26 => 127 | 27 => 128 | 46 => 144 | 47 => 145 | 48 => 146 | 49 => 147 | 50 => 148 | 57 => 153 | n => n,fun | 22 => 40 | 24 => 9 | 25 => 80 | 3 => 3 | 39 => 103 | 0 => 0 | 53 => 129 | 55 => 131 | 4 => 4 | 46 => 122 | 45 => 121 | 50 => 126 | 5 => 5 | 9 => 9 | 66 => 149 | 70 => 153 | 76 => 156 | 77 => 53 | n => n,fun | n => n⟩
theorem x1n9 : Go.Proofs.SlLaysF.n6 Try.prog x1lj := {
 mixed := by kernel_rfl
 f6 := ⟨Try.f72.name,by decide,Try.func72.trans (congrArg some (by kernel_rfl))⟩
 f14 := ⟨Try.f98.name,by decide,Try.func98.trans (congrArg some (by kernel_rfl))⟩
 f15 := Try.func99.trans (congrArg some (by kernel_rfl))
 f20 := ⟨Try.f121.name,by decide,Try.func121.trans (congrArg some (by kernel_rfl))⟩
 f21 := ⟨Try.f122.name,by decide,Try.func122.trans (congrArg some (by kernel_rfl))⟩
 f22 := ⟨Try.f123.name,by decide,Try.func123.trans (congrArg some (by kernel_rfl))⟩
 f23 := ⟨Try.f124.name,by decide,Try.func124.trans (congrArg some (by kernel_rfl))⟩
 f24 := ⟨Try.f125.name,by decide,Try.func125.trans (congrArg some (by kernel_rfl))⟩
 f25 := ⟨Try.f126.name,by decide,Try.func126.trans (congrArg some (by kernel_rfl))⟩
 f26 := ⟨Try.f127.name,by decide,Try.func127.trans (congrArg some (by kernel_rfl))⟩
 f27 := ⟨Try.f128.name,by decide,Try.func128.trans (congrArg some (by kernel_rfl))⟩
 f28 := Try.func129.trans (congrArg some (by kernel_rfl))
 f29 := Try.func130.trans (congrArg some (by kernel_rfl))
 f46 := ⟨Try.f144.name,by decide,Try.func144.trans (congrArg some (by kernel_rfl))⟩
 f47 := Try.func145.trans (congrArg some (by kernel_rfl))
 f48 := Try.func146.trans (congrArg some (by kernel_rfl))
 f49 := ⟨Try.f147.name,by decide,Try.func147.trans (congrArg some (by kernel_rfl))⟩
 f50 := ⟨Try.f148.name,by decide,Try.func148.trans (congrArg some (by kernel_rfl))⟩
 f57 := ⟨Try.f153.name,by decide,Try.func153.trans (congrArg some (by kernel_rfl))⟩
 t0 := Try.underlying0
 a0 := Try.isAgg0
 z0 := Try.sizeOf0
 v0 := Try.zeroValue0
 t3 := Try.underlying3
 a3 := Try.isAgg3
 z3 := Try.sizeOf3
 v3 := Try.zeroValue3
 t4 := Try.underlying4
 a4 := Try.isAgg4
 z4 := Try.sizeOf4
 v4 := Try.zeroValue4
 t5 := Try.underlying5
 a5 := Try.isAgg5
 z5 := Try.sizeOf5
 v5 := Try.zeroValue5
 t9 := Try.underlying9
 a9 := Try.isAgg9
 z9 := Try.sizeOf9
 v9 := Try.zeroValue9
 t22 := Try.underlying40
 a22 := Try.isAgg40
 z22 := Try.sizeOf40
 v22 := Try.zeroValue40
 a24 := Try.isAgg9
 z24 := Try.sizeOf9
 t25 := Try.underlying80
 a25 := Try.isAgg80
 z25 := Try.sizeOf80
 v25 := Try.zeroValue80
 t39 := Try.underlying103
 a39 := Try.isAgg103
 z39 := Try.sizeOf103
 v39 := Try.zeroValue103
 t45 := Try.underlying121
 a45 := Try.isAgg121
 z45 := Try.sizeOf121
 v45 := Try.zeroValue121
 t46 := Try.underlying122
 a46 := Try.isAgg122
 z46 := Try.sizeOf122
 v46 := Try.zeroValue122
 t50 := Try.underlying126
 a50 := Try.isAgg126
 z50 := Try.sizeOf126
 v50 := Try.zeroValue126
 t53 := Try.underlying129
 a53 := Try.isAgg129
 z53 := Try.sizeOf129
 v53 := Try.zeroValue129
 t55 := Try.underlying131
 a55 := Try.isAgg131
 z55 := Try.sizeOf131
 v55 := Try.zeroValue131
 t66 := Try.underlying149
 a66 := Try.isAgg149
 z66 := Try.sizeOf149
 v66 := Try.zeroValue149
 t70 := Try.underlying153
 a70 := Try.isAgg153
 z70 := Try.sizeOf153
 v70 := Try.zeroValue153
 t76 := Try.underlying156
 a76 := Try.isAgg156
 z76 := Try.sizeOf156
 v76 := Try.zeroValue156
 t77 := Try.underlying53
 a77 := Try.isAgg53
 z77 := Try.sizeOf53
 v77 := Try.zeroValue53 }
end
end Ev
end Go.Proofs.Ytppdfjdfjfoddaa
