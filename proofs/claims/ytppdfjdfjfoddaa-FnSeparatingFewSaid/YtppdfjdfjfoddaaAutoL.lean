/-
  Letters and alphabets: what the small functions give.
-/
import Derived.Test.YtppdfjdfjfoddaaLib
import Derived.Test.YtppdfjdfjfoddaaVec
set_option linter.unusedSimpArgs false
set_option maxRecDepth 8000
set_option linter.unusedVariables false
set_option maxHeartbeats 4000000
namespace Go.Proofs.Ytppdfjdfjfoddaa
namespace Ev
def xof (x : Int) : Bool := decide (0 ≤ x ∧ x < 6)
def xb4 (x : Int) : Bool := decide (0 ≤ x ∧ x ≤ 63)
theorem x197 {L n : Nat} (hn : 1 ≤ n) (a : Int) : x2 env L n 79 [.d (.int .i64 a)] [] = some (.d (.bool (xb4 a)),[]) := by
 obtain _ | n := n; omega
 rw [x1a1]
 simp only [xxz,Try.f79,SLM,simprocAttr]
 simp -implicitDefEqProofs (maxSteps := 2000000) (disch := first | assumption | exact ⟨by kernel_rfl⟩ | omega | (simp only [GT,LN] <;> omega) | fail) only [↓DN,↓kAsg,↓kRet,UP,simprocAttr]
 by_cases h : 0 ≤ a <;> simp [h,xb4]
theorem x62 {R : Type} {L n : Nat} {hq : H} {k : A → H → Option R} (hn : 1 ≤ n) (a : Int) : xe env (x2 env L n) hq 79 [.d (.int .i64 a)] k = k (.d (.bool (xb4 a))) hq :=
 xr rfl (x197 hn a) rfl (.inl rfl)
theorem x1bw {L n : Nat} (hn : 1 ≤ n) (a : Int) : x2 env L n 49 [.d (.int .i64 a)] [] = some (.d (.bool (xb4 a)),[]) := by
 obtain _ | n := n; omega
 rw [x19x]
 simp only [xx6,Try.f49,SLM,simprocAttr]
 simp -implicitDefEqProofs (maxSteps := 2000000) (disch := first | assumption | exact ⟨by kernel_rfl⟩ | omega | (simp only [GT,LN] <;> omega) | fail) only [↓DN,↓kAsg,↓kRet,UP,simprocAttr]
 by_cases h : 0 ≤ a <;> simp [h,xb4]
theorem x1k {R : Type} {L n : Nat} {hq : H} {k : A → H → Option R} (hn : 1 ≤ n) (a : Int) : xe env (x2 env L n) hq 49 [.d (.int .i64 a)] k = k (.d (.bool (xb4 a))) hq :=
 xr rfl (x1bw hn a) rfl (.inl rfl)
def x6y (a i : Int) : Bool := decide ((a.fdiv (2 ^ (min i.toNat 64))) % 2 = 1)
theorem toNat_ofInt (x : Int) : ((BitVec.ofInt 64 x).toNat : Int) = x % 18446744073709551616 := by
 rw [BitVec.toNat_ofInt]
 omega
theorem x1ih (x : Int) : iAnd .i64 x 1 = x % 2 := by
 unfold iAnd
 have h1 : (BitVec.ofInt IntKind.i64.bits x &&& BitVec.ofInt IntKind.i64.bits 1).toNat = (BitVec.ofInt 64 x).toNat % 2 := by
  change (BitVec.ofInt 64 x &&& BitVec.ofInt 64 1).toNat = _
  rw [BitVec.toNat_and]
  exact Nat.and_one_is_mod _
 rw [h1]
 have h2 := toNat_ofInt x
 rw [xkv (by omega) (by omega)]
 omega
theorem x1pb : IntKind.i64.bits = 64 := rfl
theorem x1nk {L n : Nat} (hn : 1 ≤ n) (a i : Int) (hi : 0 ≤ i) (hi2 : i ≤ 9223372036854775807) : x2 env L n 81 [.d (.int .i64 a),.d (.int .i64 i)] [] = some (.d (.bool (x6y a i)),[]) := by
 obtain _ | n := n; omega
 rw [x1oy]
 simp only [x1ff,Try.f81,SLM,simprocAttr]
 simp -implicitDefEqProofs (maxSteps := 2000000) (disch := first | assumption | exact ⟨by kernel_rfl⟩ | omega | (simp only [GT,LN] <;> omega) | fail) only [↓DN,↓kAsg,↓kRet,UP,simprocAttr,↓x1h3,x221,x1ih,x1pb]
 rfl
theorem x8r {R : Type} {L n : Nat} {hq : H} {k : A → H → Option R} (hn : 1 ≤ n) (a i : Int) (hi : 0 ≤ i) (hi2 : i ≤ 9223372036854775807) : xe env (x2 env L n) hq 81 [.d (.int .i64 a),.d (.int .i64 i)] k = k (.d (.bool (x6y a i))) hq :=
 xr rfl (x1nk hn a i hi hi2) rfl (.inl rfl)
theorem x1vk {L n : Nat} (hn : 1 ≤ n) (a i : Int) : x2 env L n 68 [.d (.int .i64 a),.d (.int .i64 i)] [] = some (.d (.bool (decide (0 ≤ i) && x6y a i)),[]) := by
 obtain _ | n := n; omega
 rw [x1v8]
 simp only [x1nd,Try.f68,SLM,simprocAttr]
 simp -implicitDefEqProofs (maxSteps := 2000000) (disch := first | assumption | exact ⟨by kernel_rfl⟩ | omega | (simp only [GT,LN] <;> omega) | fail) only [↓DN,↓kAsg,↓kRet,UP,simprocAttr,x1ih,x1pb]
 by_cases h : 0 ≤ i <;> simp [h,x6y]
theorem xbh {R : Type} {L n : Nat} {hq : H} {k : A → H → Option R} (hn : 1 ≤ n) (a i : Int) : xe env (x2 env L n) hq 68 [.d (.int .i64 a),.d (.int .i64 i)] k = k (.d (.bool (decide (0 ≤ i) && x6y a i))) hq :=
 xr rfl (x1vk hn a i) rfl (.inl rfl)
def x8 (a : Int) : List Int := [0,1,2,3,4,5].filter (x6y a)
def xf7 : Nat → List Int
 | 0 => []
 | j + 1 => (6 - ((j + 1 : Nat) : Int)) :: xf7 j
theorem x1s7 {x : Int} : xof x = true ↔ 0 ≤ x ∧ x ≤ 5 := by
 unfold xof; simp; omega
theorem xt2 {R : Type} {L n : Nat} (hn : 1 ≤ n) {a : Int} {k : Exit → List A → H → Option R} : ∀ (j : Nat) (i : Int) (l : List Int) (len m : Nat),i + j = 6 → 0 ≤ i → j < m → len = l.length → l.length + j < 100 →
  xg env (x2 env L n) L 0 [0,0,0,2] (U1 (Z1 (U2 (Z1 (U1 (Z8 (Z2 (Z1 ([]))))))))) (xb7 0) (Z1 (U1 (Z2 (U1 (Z1 (U8 (U2 (U1 ([]))))))))) m (.d (.int .i64 a) :: Y1 (.d .nils :: .sl 0 0 0 len :: Y1 (.d (.int .i64 i) :: Y8 (Y2 (Y1 ([])))))) [.arr (ints l) 1 0] k
  = k (.exit 0) (.d (.int .i64 a) :: Y1 (.d .nils :: .sl 0 0 0 (len + ((xf7 j).filter (x6y a)).length) :: Y1 (.d (.int .i64 6) :: Y8 (Y2 (Y1 ([])))))) [.arr (ints (l ++ (xf7 j).filter (x6y a))) 1 0] := by
 intro j
 induction j with
 | zero =>
  intro i l len m hi h0 hm hl hlen
  obtain _ | m := m; omega
  obtain rfl : i = 6 := by omega
  rw [xgf]
  simp only [xfa,Try.f39,SLM,simprocAttr]
  simp -implicitDefEqProofs (maxSteps := 2000000) (disch := first | assumption | exact ⟨by kernel_rfl⟩ | omega | (simp only [GT,LN] <;> omega) | fail) only [↓DN,↓kAsg,↓kRet,UP,simprocAttr,↓xbh]
  simp only [xf7,List.filter_nil,List.append_nil,List.length_nil,Nat.add_zero]
 | succ j ih =>
  intro i l len m hi h0 hm hl hlen
  obtain _ | m := m; omega
  have hc : i < 6 := by omega
  have hr : xf7 (j + 1) = i :: xf7 j := by simp only [xf7]; congr 1; omega
  rw [hr,List.filter_cons]
  cases hb : x6y a i with
  | true =>
   rw [xgf]
   simp only [xfa,Try.f39,SLM,simprocAttr]
   simp -implicitDefEqProofs (maxSteps := 2000000) (disch := first | assumption | exact ⟨by kernel_rfl⟩ | omega | (simp only [GT,LN] <;> omega) | fail) only [↓DN,↓kAsg,↓kRet,UP,simprocAttr,↓xbh,↓ih,hc,hb,h0,x2s,x5z]
   try simp only [List.append_assoc,List.cons_append,List.nil_append,Nat.add_assoc,Nat.add_comm 1]
  | false =>
   rw [xgf]
   simp only [xfa,Try.f39,SLM,simprocAttr]
   simp -implicitDefEqProofs (maxSteps := 2000000) (disch := first | assumption | exact ⟨by kernel_rfl⟩ | omega | (simp only [GT,LN] <;> omega) | fail) only [↓DN,↓kAsg,↓kRet,UP,simprocAttr,↓xbh,↓ih,hc,hb,h0]
theorem x101 {R : Type} {L n m : Nat} (hn : 1 ≤ n) {a : Int} {k : Exit → List A → H → Option R} (hm : 6 < m) :
  xg env (x2 env L n) L 0 [0,0,0,2] (U1 (Z1 (U2 (Z1 (U1 (Z8 (Z2 (Z1 ([]))))))))) (xb7 0) (Z1 (U1 (Z2 (U1 (Z1 (U8 (U2 (U1 ([]))))))))) m (.d (.int .i64 a) :: Y1 (.d .nils :: .sl 0 0 0 0 :: Y1 (.d (.int .i64 0) :: Y8 (Y2 (Y1 ([])))))) [.arr [] 1 0] k
  = k (.exit 0) (.d (.int .i64 a) :: Y1 (.d .nils :: .sl 0 0 0 (x8 a).length :: Y1 (.d (.int .i64 6) :: Y8 (Y2 (Y1 ([])))))) [.arr (ints (x8 a)) 1 0] := by
 have h := xt2 (R := R) (L := L) hn (a := a) (k := k) 6 0 [] 0 m rfl (by omega) hm rfl (by simp)
 simp only [Nat.zero_add,List.nil_append] at h
 exact h
theorem x4j (a : Int) : (x8 a).length ≤ 6 := by
 unfold x8
 exact List.length_filter_le _ _
theorem x1db {L n : Nat} (hn : 2 ≤ n) (a : Int) (hL : 2 ^ 60 ≤ L) : x2 env L n 39 [.d (.int .i64 a)] [] = some (.d (.ivs (x8 a).length (ints (x8 a))),[]) := by
 obtain _ | n := n; omega
 rw [x1cy]
 simp only [x10v,Try.f39,SLM,simprocAttr]
 simp -implicitDefEqProofs (maxSteps := 2000000) (disch := first | assumption | exact ⟨by kernel_rfl⟩ | omega | (simp only [GT,LN] <;> omega) | fail) only [↓DN,↓kAsg,↓kRet,UP,simprocAttr,↓xbh,↓xt2,↓x101,x3f,x2s]
theorem x1m {R : Type} {L n : Nat} {hq : H} {k : A → H → Option R} (hn : 2 ≤ n) (a : Int) (hL : 2 ^ 60 ≤ L) : xe env (x2 env L n) hq 39 [.d (.int .i64 a)] k = k (.d (.ivs (x8 a).length (ints (x8 a)))) hq :=
 xr rfl (x1db hn a hL) rfl (.inr rfl)
theorem x1uu {l : List Int} {P : Int → Prop} (h : ∀ v ∈ l,P v) {k : Nat} (hk : k < l.length) : P (l.getD k 0) := by
 rw [List.getD_eq_getElem?_getD,List.getElem?_eq_getElem hk]
 exact h _ (List.getElem_mem hk)
theorem xay {a : Int} : ∀ v ∈ x8 a,0 ≤ v ∧ v ≤ 5 := by
 intro v hv
 have := (List.mem_filter.1 hv).1
 simp at this
 omega
structure Edge where
 fr : Int
 lt : Int
 to : Int
 deriving DecidableEq,Inhabited
def x22b (e : Edge) : List D := [.int .i64 e.fr,.int .i64 e.lt,.int .i64 e.to]
def x21q (l : List Edge) : List D := (l.map x22b).flatten
theorem x4d {α : Type} {l : List α} {i : Nat} {d : α} (h : i < l.length) : l.drop i = l.getD i d :: l.drop (i + 1) := by
 rw [List.drop_eq_getElem_cons h,List.getD_eq_getElem?_getD,List.getElem?_eq_getElem h]
 rfl
def seek (p : Nat → Bool) : Nat → Nat → Option Nat
 | 0,_ => none
 | j + 1,i => if p i = true then some i else seek p j (i + 1)
theorem xow {p : Nat → Bool} : ∀ {j i : Nat},seek p j i = none ↔ ∀ k,i ≤ k → k < i + j → p k = false
 | 0,i => by simp only [seek,true_iff]; intro k h1 h2; omega
 | j + 1,i => by
  simp only [seek]
  by_cases hp : p i = true
  ·rw [if_pos hp]
   simp only [false_iff,reduceCtorEq]
   intro h
   have := h i (Nat.le_refl _) (by omega)
   rw [hp] at this; cases this
  ·rw [if_neg hp,xow]
   constructor
   ·intro h k h1 h2
    by_cases e : k = i
    ·subst e; simpa using hp
    ·exact h k (by omega) (by omega)
   ·intro h k h1 h2; exact h k (by omega) (by omega)
theorem xvb {p : Nat → Bool} : ∀ {j i r : Nat},seek p j i = some r → i ≤ r ∧ r < i + j ∧ p r = true ∧ ∀ k,i ≤ k → k < r → p k = false
 | 0,i,r,h => by simp [seek] at h
 | j + 1,i,r,h => by
  simp only [seek] at h
  by_cases hp : p i = true
  ·rw [if_pos hp] at h
   cases h
   exact ⟨Nat.le_refl _,by omega,hp,fun k h1 h2 => by omega⟩
  ·rw [if_neg hp] at h
   obtain ⟨h1,h2,h3,h4⟩ := xvb h
   refine ⟨by omega,by omega,h3,fun k k1 k2 => ?_⟩
   by_cases e : k = i
   ·subst e; simpa using hp
   ·exact h4 k (by omega) k2
theorem xam {p : Nat → Bool} {j i : Nat} (h : p i = true) : seek p (j + 1) i = some i := by simp [seek,h]
theorem xcb {p : Nat → Bool} {j i : Nat} (h : p i = false) : seek p (j + 1) i = seek p j (i + 1) := by simp [seek,h]
structure Sys where
 al : Int
 st : Int
 es : List Edge
 deriving DecidableEq,Inhabited
theorem x1f5 {R : Type} {E : Env} {call : xq} {h : H} {f : FuncId} {args : List A} {r : A} {k : A → H → Option R} {id e g e2 g2 : Nat} {cs cs2 : List D} (hi : h[id]? = some (.arr cs e g)) (hid : idsL args = [id]) (hm : (E.hint f).mode = 0) (hr : idsA r = []) (he : call f (x7 (xa [id]) args) [.arr cs e g] = some (r,[.arr cs2 e2 g2])) :
  xe E call h f args k = k r (h.set id (.arr cs2 e2 g2)) := by
 have hre : x4 x5 h [id] [] = [id] := by
  have e1 : x4 x5 h [id] [] = match h[id]? with
   | some (.box cs) => x4 (x5 - 1) h ([] ++ idsL cs) ([] ++ [id])
   | some (.vec cs _ _) => x4 (x5 - 1) h ([] ++ idsL cs) ([] ++ [id])
   | some .void => x4 (x5 - 1) h [] []
   | some _ => x4 (x5 - 1) h [] ([] ++ [id])
   | none => x4 (x5 - 1) h [] [] := rfl
  rw [e1,hi]; rfl
 have hpk : pack h [id] = [.arr cs e g] := by
  simp only [pack,List.map_cons,List.map_nil,List.getD_eq_getElem?_getD,hi]; rfl
 unfold xe
 rw [hid,hre,hpk]
 have hc : x36 call E.hint [.arr cs e g] f (x7 (xa [id]) args) = some (r,[.arr cs2 e2 g2]) := by
  unfold x36; rw [hm]; exact he
 rw [hc]
 have hcl : closed h [id] [id] = true := by
  simp only [closed,List.all_cons,List.all_nil,hi]; simp
 simp only [List.length_cons,List.length_nil,Nat.le_refl,hcl,and_self,if_true,xfw r hr]
 simp only [x18,mapO,List.map_nil,List.append_nil]
structure Aut where
 al : Int
 nx : List (List Int)
 ac : List Bool
 deriving DecidableEq,Inhabited
def rowD (r : List Int) : D := .ivs r.length (ints r)
def xc (rs : List (List Int)) : List D := rs.map rowD
def xb (l : List Bool) : List D := l.map .bool
theorem xle {l : List (List Int)} : (xc l).length = l.length := by simp [xc]
theorem x4f {l : List Bool} : (xb l).length = l.length := by simp [xb]
theorem xax {l : List Bool} {k : Nat} (h : l.length ≤ k) : (xb l).take k = xb l := List.take_of_length_le (by rw [x4f]; exact h)
theorem xrl {l : List Bool} {k : Nat} (h : k < l.length) : (((xb l).drop k).map A.d).head? = some (.d (.bool (l.getD k false))) := by
 rw [List.head?_map,List.head?_drop,xb,List.getElem?_map,List.getD_eq_getElem?_getD,List.getElem?_eq_getElem h]
 rfl
theorem x1fc {l : List Bool} {k : Nat} {v : Bool} (h : k < l.length) : x17 (xb l) k [.bool v] = xb (l.set k v) := xrp _ l k v h
theorem x14t {l : List (List Int)} {k : Nat} (h : k < l.length) : (((xc l).drop k).map A.d).head? = some (.d (.ivs (l.getD k []).length (ints (l.getD k [])))) := by
 rw [List.head?_map,List.head?_drop,xc,List.getElem?_map,List.getD_eq_getElem?_getD,List.getElem?_eq_getElem h]
 rfl
theorem x12x {l : List (List Int)} {k : Nat} (h : l.length ≤ k) : (xc l).take k = xc l := List.take_of_length_le (by rw [xle]; exact h)
theorem LA : type_of% (AI @xle (AI @x4f (AI @xax (AI @xrl (AI @x14t @x12x))))) :=
 ⟨@xle,@x4f,@xax,@xrl,@x14t,@x12x⟩
theorem x1me {α : Type} {l : List α} {k : Nat} {v : α} {m : List α} (h : k < l.length) : (l.set k v).take (k + 1) ++ m = l.take k ++ (v :: m) := by
 rw [take_set h]; simp
theorem x3l : env.P.underlying 23 = some (.slice 60) := by kernel_rfl
theorem x3p : env.P.cellsOf 60 = 1 := by kernel_rfl
theorem xwo (rs : List (List Int)) (r : List Int) : x9 rs ++ [.arr (ints r) 1 0] = x9 (rs ++ [r]) := x1oq rs r
def xt (rs : List (List Int)) : Prop := rs.length ≤ 4294967296 ∧ ∀ r ∈ rs,r.length ≤ 4294967296
theorem xea {rs : List (List Int)} (h : xt rs) {k : Nat} (hk : k < rs.length) : (rs.getD k []).length ≤ 4294967296 := by
 rw [List.getD_eq_getElem?_getD,List.getElem?_eq_getElem hk]
 exact h.2 _ (List.getElem_mem hk)
theorem xh0 : env.P.underlying 24 = some (.slice 4) := by kernel_rfl
end Ev
end Go.Proofs.Ytppdfjdfjfoddaa
