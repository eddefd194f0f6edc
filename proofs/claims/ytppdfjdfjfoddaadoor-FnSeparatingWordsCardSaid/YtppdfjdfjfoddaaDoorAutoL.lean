/-
  Letters and alphabets: what the small functions give.
-/
import Derived.Test.YtppdfjdfjfoddaaDoorLib
import Derived.Test.YtppdfjdfjfoddaaDoorVec
set_option linter.unusedSimpArgs false
set_option maxRecDepth 8000
set_option linter.unusedVariables false
set_option maxHeartbeats 4000000
namespace Go.Proofs.YtppdfjdfjfoddaaDoor
namespace Ev
def aGO (x:Int):Bool:=decide (0 ≤ x ∧ x < 6)
def pA (x:Int):Bool:=decide (0 ≤ x ∧ x ≤ 63)
theorem aCs {L n:Nat} (hn:1 ≤ n) (a:Int):aA env L n 55 [.d (.int .i64 a)] [] = some (.d (.bool (pA a)),[]):=by
 obtain _ | n:=n; omega
 rw [aBL]
 simp only [QE,Tryd.f55,SLM,simprocAttr]
 simp -implicitDefEqProofs (maxSteps:=2000000) (disch:=try exact Dz) only [↓DN,↓kAsg,↓kRet,UP,simprocAttr]
 by_cases h:0 ≤ a <;> simp [h,pA]
theorem iQ {R:Type} {L n:Nat} {hq:H} {k:A → H → Option R} (hn:1 ≤ n) (a:Int):aL env (aA env L n) hq 55 [.d (.int .i64 a)] k = k (.d (.bool (pA a))) hq :=
 a5 rfl (aCs hn a) rfl (.inl rfl)
theorem aDm {L n:Nat} (hn:1 ≤ n) (a:Int):aA env L n 27 [.d (.int .i64 a)] [] = some (.d (.bool (pA a)),[]):=by
 obtain _ | n:=n; omega
 rw [aDn]
 simp only [QA,Tryd.f27,SLM,simprocAttr]
 simp -implicitDefEqProofs (maxSteps:=2000000) (disch:=try exact Dz) only [↓DN,↓kAsg,↓kRet,UP,simprocAttr]
 by_cases h:0 ≤ a <;> simp [h,pA]
theorem eB {R:Type} {L n:Nat} {hq:H} {k:A → H → Option R} (hn:1 ≤ n) (a:Int):aL env (aA env L n) hq 27 [.d (.int .i64 a)] k = k (.d (.bool (pA a))) hq :=
 a5 rfl (aDm hn a) rfl (.inl rfl)
def iM (a i:Int):Bool:=decide ((a.fdiv (2 ^ (min i.toNat 64))) % 2 = 1)
theorem toNat_ofInt (x:Int):((BitVec.ofInt 64 x).toNat:Int) = x % 18446744073709551616:=by
 rw [BitVec.toNat_ofInt]
 omega
theorem aAO (x:Int):iAnd .i64 x 1 = x % 2:=by
 unfold iAnd
 have h1:(BitVec.ofInt IntKind.i64.bits x &&& BitVec.ofInt IntKind.i64.bits 1).toNat = (BitVec.ofInt 64 x).toNat % 2:=by
  change (BitVec.ofInt 64 x &&& BitVec.ofInt 64 1).toNat = _
  rw [BitVec.toNat_and]
  exact Nat.and_one_is_mod _
 rw [h1]
 have h2:=toNat_ofInt x
 rw [BS (by omega) (by omega)]
 omega
theorem aIv:IntKind.i64.bits = 64:=rfl
theorem aK2 {L n:Nat} (hn:1 ≤ n) (a i:Int) (hi:0 ≤ i) (hi2:i ≤ 9223372036854775807):aA env L n 62 [.d (.int .i64 a),.d (.int .i64 i)] [] = some (.d (.bool (iM a i)),[]):=by
 obtain _ | n:=n; omega
 rw [aKU]
 simp only [aFA,Tryd.f62,SLM,simprocAttr]
 simp -implicitDefEqProofs (maxSteps:=2000000) (disch:=try exact Dz) only [↓DN,↓kAsg,↓kRet,UP,simprocAttr,↓ST,aNP,aAO,aIv]
 rfl
theorem lY {R:Type} {L n:Nat} {hq:H} {k:A → H → Option R} (hn:1 ≤ n) (a i:Int) (hi:0 ≤ i) (hi2:i ≤ 9223372036854775807):aL env (aA env L n) hq 62 [.d (.int .i64 a),.d (.int .i64 i)] k = k (.d (.bool (iM a i))) hq :=
 a5 rfl (aK2 hn a i hi hi2) rfl (.inl rfl)
theorem aP7 {L n:Nat} (hn:1 ≤ n) (a i:Int):aA env L n 59 [.d (.int .i64 a),.d (.int .i64 i)] [] = some (.d (.bool (decide (0 ≤ i) && iM a i)),[]):=by
 obtain _ | n:=n; omega
 rw [aP3]
 simp only [aKs,Tryd.f59,SLM,simprocAttr]
 simp -implicitDefEqProofs (maxSteps:=2000000) (disch:=try exact Dz) only [↓DN,↓kAsg,↓kRet,UP,simprocAttr,aAO,aIv]
 by_cases h:0 ≤ i <;> simp [h,iM]
theorem RX {R:Type} {L n:Nat} {hq:H} {k:A → H → Option R} (hn:1 ≤ n) (a i:Int):aL env (aA env L n) hq 59 [.d (.int .i64 a),.d (.int .i64 i)] k = k (.d (.bool (decide (0 ≤ i) && iM a i))) hq :=
 a5 rfl (aP7 hn a i) rfl (.inl rfl)
def aD (a:Int):List Int:=[0,1,2,3,4,5].filter (iM a)
def uE:Nat → List Int
 | 0 => []
 | j + 1 => (6 - ((j + 1:Nat):Int)) :: uE j
theorem KI {R:Type} {L n:Nat} (hn:1 ≤ n) {a:Int} {k:Exit → List A → H → Option R}:∀ (j:Nat) (i:Int) (l:List Int) (len m:Nat),i + j = 6 → 0 ≤ i → j < m → len = l.length → l.length + j < 100 →
  aO env (aA env L n) L 0 [0,0,0,2] (U1 (Z1 (U2 (Z1 (U1 (Z8 (Z2 (Z1 ([]))))))))) (pC 0) (Z1 (U1 (Z2 (U1 (Z1 (U8 (U2 (U1 ([]))))))))) m (.d (.int .i64 a) :: Y1 (.d .nils :: .sl 0 0 0 len :: Y1 (.d (.int .i64 i) :: Y8 (Y2 (Y1 ([])))))) [.arr (ints l) 1 0] k
  = k (.exit 0) (.d (.int .i64 a) :: Y1 (.d .nils :: .sl 0 0 0 (len + ((uE j).filter (iM a)).length) :: Y1 (.d (.int .i64 6) :: Y8 (Y2 (Y1 ([])))))) [.arr (ints (l ++ (uE j).filter (iM a))) 1 0]:=by
 intro j
 induction j with
 | zero =>
  intro i l len m hi h0 hm hl hlen
  obtain _ | m:=m; omega
  obtain rfl:i = 6:=by omega
  rw [uJ]
  simp only [uC,Tryd.f28,SLM,simprocAttr]
  simp -implicitDefEqProofs (maxSteps:=2000000) (disch:=try exact Dz) only [↓DN,↓kAsg,↓kRet,UP,simprocAttr,↓RX]
  simp only [uE,List.filter_nil,List.append_nil,List.length_nil,Nat.add_zero]
 | succ j ih =>
  intro i l len m hi h0 hm hl hlen
  obtain _ | m:=m; omega
  have hc:i < 6:=by omega
  have hr:uE (j + 1) = i :: uE j:=by simp only [uE]; congr 1; omega
  rw [hr,List.filter_cons]
  cases hb:iM a i with
  | true =>
   rw [uJ]
   simp only [uC,Tryd.f28,SLM,simprocAttr]
   simp -implicitDefEqProofs (maxSteps:=2000000) (disch:=try exact Dz) only [↓DN,↓kAsg,↓kRet,UP,simprocAttr,↓RX,↓ih,hc,hb,h0,c8,iN]
   try simp only [List.append_assoc,List.cons_append,List.nil_append,Nat.add_assoc,Nat.add_comm 1]
  | false =>
   rw [uJ]
   simp only [uC,Tryd.f28,SLM,simprocAttr]
   simp -implicitDefEqProofs (maxSteps:=2000000) (disch:=try exact Dz) only [↓DN,↓kAsg,↓kRet,UP,simprocAttr,↓RX,↓ih,hc,hb,h0]
theorem RF {R:Type} {L n m:Nat} (hn:1 ≤ n) {a:Int} {k:Exit → List A → H → Option R} (hm:6 < m) :
  aO env (aA env L n) L 0 [0,0,0,2] (U1 (Z1 (U2 (Z1 (U1 (Z8 (Z2 (Z1 ([]))))))))) (pC 0) (Z1 (U1 (Z2 (U1 (Z1 (U8 (U2 (U1 ([]))))))))) m (.d (.int .i64 a) :: Y1 (.d .nils :: .sl 0 0 0 0 :: Y1 (.d (.int .i64 0) :: Y8 (Y2 (Y1 ([])))))) [.arr [] 1 0] k
  = k (.exit 0) (.d (.int .i64 a) :: Y1 (.d .nils :: .sl 0 0 0 (aD a).length :: Y1 (.d (.int .i64 6) :: Y8 (Y2 (Y1 ([])))))) [.arr (ints (aD a)) 1 0]:=by
 have h:=KI (R:=R) (L:=L) hn (a:=a) (k:=k) 6 0 [] 0 m rfl (by omega) hm rfl (by simp)
 simp only [Nat.zero_add,List.nil_append] at h
 exact h
theorem eZ (a:Int):(aD a).length ≤ 6:=by
 unfold aD
 exact List.length_filter_le _ _
theorem aEc {L n:Nat} (hn:2 ≤ n) (a:Int) (hL:2 ^ 60 ≤ L):aA env L n 28 [.d (.int .i64 a)] [] = some (.d (.ivs (aD a).length (ints (aD a))),[]):=by
 obtain _ | n:=n; omega
 rw [aDV]
 simp only [TW,Tryd.f28,SLM,simprocAttr]
 simp -implicitDefEqProofs (maxSteps:=2000000) (disch:=try exact Dz) only [↓DN,↓kAsg,↓kRet,UP,simprocAttr,↓RX,↓KI,↓RF,dN,c8]
theorem b9 {R:Type} {L n:Nat} {hq:H} {k:A → H → Option R} (hn:2 ≤ n) (a:Int) (hL:2 ^ 60 ≤ L):aL env (aA env L n) hq 28 [.d (.int .i64 a)] k = k (.d (.ivs (aD a).length (ints (aD a)))) hq :=
 a5 rfl (aEc hn a hL) rfl (.inr rfl)
theorem aPs {l:List Int} {P:Int → Prop} (h:∀ v ∈ l,P v) {k:Nat} (hk:k < l.length):P (l.getD k 0):=by
 rw [List.getD_eq_getElem?_getD,List.getElem?_eq_getElem hk]
 exact h _ (List.getElem_mem hk)
theorem lX {a:Int}:∀ v ∈ aD a,0 ≤ v ∧ v ≤ 5:=by
 intro v hv
 have:=(List.mem_filter.1 hv).1
 simp at this
 omega
structure Edge where
 fr:Int
 lt:Int
 to:Int
 deriving DecidableEq,Inhabited
def aTz (e:Edge):List D:=[.int .i64 e.fr,.int .i64 e.lt,.int .i64 e.to]
def aS9 (l:List Edge):List D:=(l.map aTz).flatten
theorem eS {α:Type} {l:List α} {i:Nat} {d:α} (h:i < l.length):l.drop i = l.getD i d :: l.drop (i + 1):=by
 rw [List.drop_eq_getElem_cons h,List.getD_eq_getElem?_getD,List.getElem?_eq_getElem h]
 rfl
def seek (p:Nat → Bool):Nat → Nat → Option Nat
 | 0,_ => none
 | j + 1,i => if p i = true then some i else seek p j (i + 1)
theorem E5 {p:Nat → Bool}:∀ {j i:Nat},seek p j i = none ↔ ∀ k,i ≤ k → k < i + j → p k = false
 | 0,i => by simp only [seek,true_iff]; intro k h1 h2; omega
 | j + 1,i => by
  simp only [seek]
  by_cases hp:p i = true
  ·rw [if_pos hp]
   simp only [false_iff,reduceCtorEq]
   intro h
   have:=h i (Nat.le_refl _) (by omega)
   rw [hp] at this; cases this
  ·rw [if_neg hp,E5]
   constructor
   ·intro h k h1 h2
    by_cases e:k = i
    ·subst e; simpa using hp
    ·exact h k (by omega) (by omega)
   ·intro h k h1 h2; exact h k (by omega) (by omega)
theorem ON {p:Nat → Bool}:∀ {j i r:Nat},seek p j i = some r → i ≤ r ∧ r < i + j ∧ p r = true ∧ ∀ k,i ≤ k → k < r → p k = false
 | 0,i,r,h => by simp [seek] at h
 | j + 1,i,r,h => by
  simp only [seek] at h
  by_cases hp:p i = true
  ·rw [if_pos hp] at h
   cases h
   exact ⟨Nat.le_refl _,by omega,hp,fun k h1 h2 => by omega⟩
  ·rw [if_neg hp] at h
   obtain ⟨h1,h2,h3,h4⟩:=ON h
   refine ⟨by omega,by omega,h3,fun k k1 k2 => ?_⟩
   by_cases e:k = i
   ·subst e; simpa using hp
   ·exact h4 k (by omega) k2
theorem pH {p:Nat → Bool} {j i:Nat} (h:p i = true):seek p (j + 1) i = some i:=by simp [seek,h]
theorem sS {p:Nat → Bool} {j i:Nat} (h:p i = false):seek p (j + 1) i = seek p j (i + 1):=by simp [seek,h]
structure Sys where
 al:Int
 st:Int
 es:List Edge
 deriving DecidableEq,Inhabited
theorem aEV {R:Type} {E:Env} {call:a9} {h:H} {f:FuncId} {args:List A} {r:A} {k:A → H → Option R} {id e g e2 g2:Nat} {cs cs2:List D} (hi:h[id]? = some (.arr cs e g)) (hid:idsL args = [id]) (hm:(E.hint f).mode = 0) (hr:idsA r = []) (he:call f (aG (aI [id]) args) [.arr cs e g] = some (r,[.arr cs2 e2 g2])) :
  aL E call h f args k = k r (h.set id (.arr cs2 e2 g2)):=by
 have hre:aC aE h [id] [] = [id]:=by
  have e1:aC aE h [id] [] = match h[id]? with
   | some (.box cs) => aC (aE - 1) h ([] ++ idsL cs) ([] ++ [id])
   | some (.vec cs _ _) => aC (aE - 1) h ([] ++ idsL cs) ([] ++ [id])
   | some .void => aC (aE - 1) h [] []
   | some _ => aC (aE - 1) h [] ([] ++ [id])
   | none => aC (aE - 1) h [] []:=rfl
  rw [e1,hi]; rfl
 have hpk:pack h [id] = [.arr cs e g]:=by
  simp only [pack,List.map_cons,List.map_nil,List.getD_eq_getElem?_getD,hi]; rfl
 unfold aL
 rw [hid,hre,hpk]
 have hc:dX call E.hint [.arr cs e g] f (aG (aI [id]) args) = some (r,[.arr cs2 e2 g2]):=by
  unfold dX; rw [hm]; exact he
 rw [hc]
 have hcl:closed h [id] [id] = true:=by
  simp only [closed,List.all_cons,List.all_nil,hi]; simp
 simp only [List.length_cons,List.length_nil,Nat.le_refl,hcl,and_self,if_true,uM r hr]
 simp only [bP,mapO,List.map_nil,List.append_nil]
structure Aut where
 al:Int
 nx:List (List Int)
 ac:List Bool
 deriving DecidableEq,Inhabited
def rowD (r:List Int):D:=.ivs r.length (ints r)
def aJ (rs:List (List Int)):List D:=rs.map rowD
def aK (l:List Bool):List D:=l.map .bool
theorem A5 {l:List (List Int)}:(aJ l).length = l.length:=by simp [aJ]
theorem fO {l:List Bool}:(aK l).length = l.length:=by simp [aK]
theorem oX {l:List Bool} {k:Nat} (h:l.length ≤ k):(aK l).take k = aK l:=List.take_of_length_le (by rw [fO]; exact h)
theorem HZ {l:List Bool} {k:Nat} (h:k < l.length):(((aK l).drop k).map A.d).head? = some (.d (.bool (l.getD k false))):=by
 rw [List.head?_map,List.head?_drop,aK,List.getElem?_map,List.getD_eq_getElem?_getD,List.getElem?_eq_getElem h]
 rfl
theorem aFg {l:List Bool} {k:Nat} {v:Bool} (h:k < l.length):bN (aK l) k [.bool v] = aK (l.set k v):=H1 _ l k v h
theorem W5 {l:List (List Int)} {k:Nat} (h:k < l.length):(((aJ l).drop k).map A.d).head? = some (.d (.ivs (l.getD k []).length (ints (l.getD k [])))):=by
 rw [List.head?_map,List.head?_drop,aJ,List.getElem?_map,List.getD_eq_getElem?_getD,List.getElem?_eq_getElem h]
 rfl
theorem VJ {l:List (List Int)} {k:Nat} (h:l.length ≤ k):(aJ l).take k = aJ l:=List.take_of_length_le (by rw [A5]; exact h)
theorem LA:type_of% (AI @A5 (AI @fO (AI @oX (AI @HZ (AI @W5 @VJ))))) :=
 ⟨@A5,@fO,@oX,@HZ,@W5,@VJ⟩
theorem aJQ {α:Type} {l:List α} {k:Nat} {v:α} {m:List α} (h:k < l.length):(l.set k v).take (k + 1) ++ m = l.take k ++ (v :: m):=by
 rw [take_set h]; simp
theorem d7:env.P.underlying 23 = some (.slice 32):=by kernel_rfl
theorem eD:env.P.cellsOf 32 = 1:=by kernel_rfl
theorem PF (rs:List (List Int)) (r:List Int):aH rs ++ [.arr (ints r) 1 0] = aH (rs ++ [r]):=aK6 rs r
def bA (rs:List (List Int)):Prop:=rs.length ≤ 4294967296 ∧ ∀ r ∈ rs,r.length ≤ 4294967296
theorem sR {rs:List (List Int)} (h:bA rs) {k:Nat} (hk:k < rs.length):(rs.getD k []).length ≤ 4294967296:=by
 rw [List.getD_eq_getElem?_getD,List.getElem?_eq_getElem hk]
 exact h.2 _ (List.getElem_mem hk)
theorem vS:env.P.underlying 24 = some (.slice 4):=by kernel_rfl
end Ev
end Go.Proofs.YtppdfjdfjfoddaaDoor
