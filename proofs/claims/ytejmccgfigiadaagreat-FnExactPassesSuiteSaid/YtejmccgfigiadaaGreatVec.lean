/-
  Memory with rows: what is reached, in which order.
-/
import Derived.Test.YtejmccgfigiadaaGreatRead
set_option linter.unusedSimpArgs false
set_option linter.unusedVariables false
namespace Go.Proofs.YtejmccgfigiadaaGreat
namespace Ev
theorem L8 {h:H} {ids P T:List Nat} (hfix:P ++ T = ids ++ P.flatMap (kids h)) (hT:∀ i ∈ T,kids h i = []) (hprog:∀ k,k < P.length → k < ids.length + ((P.take k).flatMap (kids h)).length) (hnd:(P ++ T).Nodup) (hv:∀ i ∈ P ++ T,∃ o,h[i]? = some o ∧ o ≠ .void) {n:Nat} (hf:(P ++ T).length ≤ n):aD n h ids [] = P ++ T:=by
 generalize hL:P ++ T = L at *
 have hTf:T.flatMap (kids h) = []:=by
  rw [List.flatMap_eq_nil_iff]; exact hT
 have hLf:L.flatMap (kids h) = P.flatMap (kids h):=by rw [← hL,List.flatMap_append,hTf,List.append_nil]
 have fix:L = ids ++ L.flatMap (kids h):=by rw [hLf]; exact hfix
 have prog:∀ k,k < L.length → k < ids.length + ((L.take k).flatMap (kids h)).length:=by
  intro k hk
  by_cases h1:k < P.length
  ·have:=hprog k h1
   have e:L.take k = P.take k:=by rw [← hL,List.take_append_of_le_length (by omega)]
   rw [e]; exact this
  ·have e:(L.take k).flatMap (kids h) = P.flatMap (kids h):=by
    rw [← hL,List.take_append,List.flatMap_append,List.take_of_length_le (by omega)]
    have:(T.take (k - P.length)).flatMap (kids h) = []:=by
     rw [List.flatMap_eq_nil_iff]; intro i hi; exact hT i (List.mem_of_mem_take hi)
    rw [this,List.append_nil]
   rw [e]
   have:=congrArg List.length hfix
   rw [List.length_append] at this
   omega
 have key:∀ (n k:Nat),k ≤ L.length → L.length - k ≤ n → aD n h ((ids ++ (L.take k).flatMap (kids h)).drop k) (L.take k) = L:=by
  intro n
  induction n with
  | zero =>
   intro k hk hn
   have:k = L.length:=by omega
   subst this
   simp only [aD,List.take_length]
  | succ n ih =>
   intro k hk hn
   by_cases hkl:k = L.length
   ·subst hkl
    rw [List.take_length,← fix,List.drop_length]
    simp only [aD]
   ·have hk':k < L.length:=by omega
    have hp:=prog k hk'
    have hX:k < (ids ++ (L.take k).flatMap (kids h)).length:=by rw [List.length_append]; exact hp
    have hget:(ids ++ (L.take k).flatMap (kids h))[k]'hX = L[k]:=by
     have e:L = (ids ++ (L.take k).flatMap (kids h)) ++ (L.drop k).flatMap (kids h):=by
      rw [List.append_assoc,← List.flatMap_append,List.take_append_drop]; exact fix
     have e2:L[k]? = (ids ++ (L.take k).flatMap (kids h))[k]?:=by
      conv => lhs; rw [e]
      rw [List.getElem?_append_left hX]
     rw [List.getElem?_eq_getElem hk',List.getElem?_eq_getElem hX] at e2
     exact (Option.some.inj e2).symm
    rw [List.drop_eq_getElem_cons hX,hget]
    obtain ⟨o,ho,hov⟩:=hv L[k] (List.getElem_mem hk')
    have hni:L[k] ∉ L.take k:=by
     intro hm
     obtain ⟨j,hj,he⟩:=List.getElem_of_mem hm
     rw [List.length_take] at hj
     rw [List.getElem_take] at he
     exact (List.pairwise_iff_getElem.1 hnd) j k (by omega) hk' (by omega) he
    have hc:(L.take k).contains L[k] = false:=by simpa using hni
    have hstep:aD (n + 1) h (L[k] :: (ids ++ (L.take k).flatMap (kids h)).drop (k + 1)) (L.take k) = aD n h ((ids ++ (L.take k).flatMap (kids h)).drop (k + 1) ++ kids h L[k]) (L.take k ++ [L[k]]):=by
     simp only [aD,hc,Bool.false_eq_true,if_false,ho,kids]
     cases o <;> first | rfl | (simp; done) | exact absurd rfl hov
    rw [hstep]
    have ht:L.take (k + 1) = L.take k ++ [L[k]]:=by rw [List.take_add_one,List.getElem?_eq_getElem hk']; rfl
    have hd:(ids ++ (L.take k).flatMap (kids h)).drop (k + 1) ++ kids h L[k] = (ids ++ (L.take (k + 1)).flatMap (kids h)).drop (k + 1):=by
     rw [ht,List.flatMap_append,List.flatMap_singleton,← List.append_assoc]
     exact (List.drop_append_of_le_length hX).symm
    rw [hd,← ht]
    exact ih (k + 1) (by omega) (by omega)
 have:=key n 0 (by omega) (by omega)
 simpa using this
def aU (b:Nat):List (List Int) → List A
 | [] => []
 | r :: rs => .sl b 0 0 r.length :: aU (b + 1) rs
def bB (rs:List (List Int)):H:=rs.map fun r => .arr (r.map (.int .i64)) 1 0
theorem sF:∀ (rs:List (List Int)) (b:Nat),idsL (aU b rs) = List.range' b rs.length
 | [],b => by simp [aU,idsL]
 | r :: rs,b => by simp [aU,idsL,idsA,sF rs,List.range'_succ]
theorem w9:∀ (rs:List (List Int)) (b:Nat),(aU b rs).length = rs.length
 | [],b => rfl
 | r :: rs,b => by simp [aU,w9 rs]
theorem WU:∀ (rs:List (List Int)) (b:Nat) (r:List Int),aU b (rs ++ [r]) = aU b rs ++ [.sl (b + rs.length) 0 0 r.length]
 | [],b,r => by simp [aU]
 | q :: rs,b,r => by
  simp only [List.cons_append,aU,WU rs,List.length_cons]
  rw [show b + 1 + rs.length = b + (rs.length + 1) by omega]
theorem aHi (rs:List (List Int)) (r:List Int):bB rs ++ [.arr (r.map (.int .i64)) 1 0] = bB (rs ++ [r]):=by simp [bB]
theorem gP (rs:List (List Int)):(bB rs).length = rs.length:=by simp [bB]
theorem wT {rs:List (List Int)} {i:Nat} {r:List Int} (h:rs[i]? = some r):(bB rs)[i]? = some (.arr (r.map (.int .i64)) 1 0):=by simp [bB,h]
theorem DQ {f:Nat → Option Nat} {c:Nat}:∀ {rs:List (List Int)} {b d:Nat},(∀ i,i < rs.length → f (b + i) = some (d + i)) → aM f (aU b rs) = aU d rs
 | [],b,d,_ => by simp [aU,aM]
 | r :: rs,b,d,h => by
  have h0:=h 0 (by simp)
  simp only [Nat.add_zero] at h0
  simp only [aU,aM,mapA,h0]
  rw [DQ (c:=c) (rs:=rs) (b:=b + 1) (d:=d + 1) fun i hi => by
   have:=h (i + 1) (by simp; omega)
   rw [show b + 1 + i = b + (i + 1) by omega,this]
   congr 1; omega]
theorem aCD (f:Nat → Option Nat) (rs:List (List Int)):(bB rs).map (mapO f) = bB rs:=by
 simp only [bB,List.map_map]
 rfl
theorem aJa {A B:List Nat} {x:Nat} (h:x ∉ A):aJ (A ++ B) x = (aJ B x).map (A.length + ·):=by
 induction A with
 | nil =>
  simp only [List.nil_append,List.length_nil]
  cases aJ B x <;> simp
 | cons a A ih =>
  simp only [List.mem_cons,not_or] at h
  simp only [List.cons_append,aJ,if_neg (Ne.symm h.1),ih h.2,List.length_cons]
  cases aJ B x with
  | none => rfl
  | some k => simp; omega
theorem P7:∀ (n b i:Nat),i < n → aJ (List.range' b n) (b + i) = some i
 | n + 1,b,0,_ => by simp [List.range'_succ,aJ]
 | n + 1,b,i + 1,h => by
  simp only [List.range'_succ,aJ]
  rw [if_neg (by omega),show b + (i + 1) = b + 1 + i by omega,P7 n (b + 1) i (by omega)]
  rfl
theorem M9 {h:H} {f:Nat → Option Nat}:∀ {rs:List (List Int)} {b:Nat},(∀ i r,rs[i]? = some r → h[b + i]? = some (.arr (r.map (.int .i64)) 1 0)) → (List.range' b rs.length).map (fun i => mapO f (h.getD i default)) = bB rs
 | [],b,_ => by simp [bB]
 | r :: rs,b,hh => by
  have h0:=hh 0 r rfl
  simp only [Nat.add_zero] at h0
  simp only [List.length_cons,List.range'_succ,List.map_cons,List.getD_eq_getElem?_getD,h0,Option.getD_some]
  have:=M9 (h:=h) (f:=f) (rs:=rs) (b:=b + 1) fun i q hq => by
   rw [show b + 1 + i = b + (i + 1) by omega]
   exact hh (i + 1) q (by simpa using hq)
  simp only [List.getD_eq_getElem?_getD] at this
  rw [this]
  rfl
mutual
theorem aKB {f:Nat → Option Nat}:∀ a:A,(∀ i ∈ idsA a,f i = some i) → mapA f a = a
 | .d x,_ => by simp only [mapA]
 | .sl id gen off len,h => by simp only [mapA,h id (by simp [idsA])]
 | .ptr id gen off,h => by simp only [mapA,h id (by simp [idsA])]
 | .mp id,h => by simp only [mapA,h id (by simp [idsA])]
 | .clo g caps,h => by simp only [mapA]; rw [sN caps (by simpa only [idsA] using h)]
 | .agg cs,h => by simp only [mapA]; rw [sN cs (by simpa only [idsA] using h)]
 | .tup cs,h => by simp only [mapA]; rw [sN cs (by simpa only [idsA] using h)]
 | .junk,_ => by simp only [mapA]
theorem sN {f:Nat → Option Nat}:∀ as:List A,(∀ i ∈ idsL as,f i = some i) → aM f as = as
 | [],_ => by simp only [aM]
 | a :: as,h => by
  simp only [idsL,List.mem_append] at h
  simp only [aM]
  rw [aKB a fun i hi => h i (.inl hi),sN as fun i hi => h i (.inr hi)]
end
mutual
def z0A:A → Bool
 | .sl _ g _ _ => g == 0
 | .ptr _ g _ => g == 0
 | .mp _ => true
 | .clo _ caps => z0As caps
 | .agg cs => z0As cs
 | .tup cs => z0As cs
 | .d _ => true
 | .junk => true
def z0As:List A → Bool
 | [] => true
 | a :: as => z0A a && z0As as
end
mutual
theorem aJD {nf:Nat} {h:H} (hg:∀ i g,cV h i = some g → g = 0):∀ a:A,z0A a = true → cW nf h a = a
 | .d x,_ => by simp only [cW]
 | .sl id gen off len,hz => by
  simp only [z0A,beq_iff_eq] at hz
  subst hz
  simp only [cW,GY]
  split
  ·rfl
  ·cases hgo:cV h id with
   | none => rfl
   | some g => have:=hg id g hgo; subst this; simp
 | .ptr id gen off,hz => by
  simp only [z0A,beq_iff_eq] at hz
  subst hz
  simp only [cW,M0]
  split
  ·rfl
  ·cases hgo:cV h id with
   | none => rfl
   | some g => have:=hg id g hgo; subst this; simp
 | .mp id,hz => by simp only [cW]
 | .clo g caps,hz => by simp only [cW]; rw [jL hg caps (by simpa only [z0A] using hz)]
 | .agg cs,hz => by simp only [cW]; rw [jL hg cs (by simpa only [z0A] using hz)]
 | .tup cs,hz => by simp only [cW]; rw [jL hg cs (by simpa only [z0A] using hz)]
 | .junk,_ => by simp only [cW]
theorem jL {nf:Nat} {h:H} (hg:∀ i g,cV h i = some g → g = 0):∀ as:List A,z0As as = true → bP nf h as = as
 | [],_ => by simp only [bP]
 | a :: as,hz => by
  simp only [z0As,Bool.and_eq_true] at hz
  simp only [bP]
  rw [aJD hg a hz.1,jL hg as hz.2]
end
def z0O:O → Bool
 | .arr _ _ g => g == 0
 | .box cs => z0As cs
 | .ice _ _ g => g == 0
 | .vec cs _ g => g == 0 && z0As cs
 | .log _ => true
 | .mp _ => true
 | .void => true
theorem TH {h:H} (hz:h.all z0O = true):∀ i g,cV h i = some g → g = 0:=by
 intro i g hg
 unfold cV at hg
 cases ho:h[i]? with
 | none => rw [ho] at hg; cases hg
 | some o =>
  have:=List.all_eq_true.1 hz o (List.mem_of_getElem? ho)
  rw [ho] at hg
  cases o with
  | arr cs e g' => simp only [Option.some.injEq] at hg; subst hg; simpa [z0O] using this
  | ice cs e g' => simp only [Option.some.injEq] at hg; subst hg; simpa [z0O] using this
  | vec cs e g' => simp only [Option.some.injEq] at hg; subst hg; simp only [z0O,Bool.and_eq_true,beq_iff_eq] at this; exact this.1
  | _ => cases hg
theorem MF {nf:Nat} {h:H} (hg:∀ i g,cV h i = some g → g = 0):∀ (os:H) (i:Nat),os.all z0O = true → dY nf h i os = os
 | [],_,_ => by simp only [dY]
 | o :: os,i,hz => by
  simp only [List.all_cons,Bool.and_eq_true] at hz
  simp only [dY]
  rw [MF hg os (i + 1) hz.2]
  congr 1
  cases o with
  | arr cs e g => have:=hz.1; simp only [z0O,beq_iff_eq] at this; subst this; simp [bO]
  | ice cs e g => have:=hz.1; simp only [z0O,beq_iff_eq] at this; subst this; simp [bO]
  | box cs => simp only [bO]; rw [jL hg cs (by simpa only [z0O] using hz.1)]
  | vec cs e g =>
   have:=hz.1
   simp only [z0O,Bool.and_eq_true,beq_iff_eq] at this
   obtain ⟨rfl,h2⟩:=this
   simp only [bO]
   rw [jL hg cs h2]
   simp
  | log cs => simp only [bO]
  | mp es => simp only [bO]
  | void => simp only [bO]
theorem aH5 {nf:Nat} {h:H} (hz:h.all z0O = true):gH nf h = h:=MF (TH hz) h 0 hz
theorem R0:∀ (as bs:List A),z0As (as ++ bs) = (z0As as && z0As bs)
 | [],bs => by simp [z0As]
 | a :: as,bs => by simp [z0As,R0 as bs,Bool.and_assoc]
theorem LU:∀ (rs:List (List Int)) (b:Nat),z0As (aU b rs) = true
 | [],b => by simp [aU,z0As]
 | r :: rs,b => by simp [aU,z0As,z0A,LU rs]
theorem aC5 (rs:List (List Int)):(bB rs).all z0O = true:=by simp [bB,z0O]
def gcO (nf:Nat) (m:List Bool) (s:List A) (h:H):List A × H:=gc nf m s h
def aLv (nf:Nat) (h:H) (ord:List Nat) (s:List A):List A × H:=trim nf h ord s
def a8 (q:Nat):List A:=List.replicate q (.d .nils)
theorem IU (q:Nat):a8 (q + 1) = .d .nils :: a8 q:=rfl
theorem aIA (q:Nat):(a8 q).length = q:=by simp [a8]
theorem sG:∀ q:Nat,idsL (a8 q) = []
 | 0 => by simp [a8,idsL]
 | q + 1 => by rw [IU]; simp [idsL,idsA,sG q]
theorem ME:∀ q:Nat,z0As (a8 q) = true
 | 0 => by simp [a8,z0As]
 | q + 1 => by rw [IU]; simp [z0As,z0A,ME q]
section
variable {rs:List (List Int)} {q:Nat}
theorem aJb:kids (.vec (aU 1 rs ++ a8 q) 1 0 :: bB rs) 0 = List.range' 1 rs.length:=by
 simp only [kids,List.getElem?_cons_zero,oF,sF,sG,List.append_nil]
theorem aA4:∀ i ∈ List.range' 1 rs.length,∃ r:List Int,(O.vec (aU 1 rs ++ a8 q) 1 0 :: bB rs)[i]? = some (.arr (r.map (.int .i64)) 1 0):=by
 intro i hi
 simp only [List.mem_range'_1] at hi
 obtain ⟨j,rfl⟩:∃ j,i = j + 1:=⟨i - 1,by omega⟩
 have hj:j < rs.length:=by omega
 exact ⟨rs[j],by rw [List.getElem?_cons_succ]; exact wT (List.getElem?_eq_getElem hj)⟩
theorem UW (hl:rs.length ≤ 4294967296):aD aG (.vec (aU 1 rs ++ a8 q) 1 0 :: bB rs) [0] [] = [0] ++ List.range' 1 rs.length:=by
 refine L8 (P:=[0]) (T:=List.range' 1 rs.length) ?_ ?_ ?_ ?_ ?_ ?_
 ·simp [aJb]
 ·intro i hi
  obtain ⟨r,hr⟩:=aA4 (q:=q) i hi
  simp only [kids,hr]
 ·intro k hk; simp at hk; subst hk; simp
 ·simp only [List.cons_append,List.nil_append,List.nodup_cons]
  exact ⟨by simp,List.nodup_range'⟩
 ·intro i hi
  simp only [List.cons_append,List.nil_append,List.mem_cons] at hi
  rcases hi with rfl | hi
  ·exact ⟨_,rfl,by simp⟩
  ·obtain ⟨r,hr⟩:=aA4 (q:=q) i hi
   exact ⟨_,hr,by simp⟩
 ·simp only [List.length_append,List.length_cons,List.length_nil,List.length_range',aG]; omega
theorem aGS (i:Nat) (hi:i < rs.length + 1):aJ ([0] ++ List.range' 1 rs.length) i = some i:=by
 cases i with
 | zero => rfl
 | succ i =>
  rw [aJa (by simp)]
  rw [show i + 1 = 1 + i by omega,P7 _ _ _ (by omega)]
  simp
theorem aBj {xs:List A} (hi:idsL xs = [0]) (hz:z0As xs = true):trim 0 (.vec (aU 1 rs ++ a8 q) 1 0 :: bB rs) ([0] ++ List.range' 1 rs.length) xs = (xs,.vec (aU 1 rs ++ a8 q) 1 0 :: bB rs):=by
 have hpk:pack (.vec (aU 1 rs ++ a8 q) 1 0 :: bB rs) ([0] ++ List.range' 1 rs.length) = .vec (aU 1 rs ++ a8 q) 1 0 :: bB rs:=by
  simp only [pack,List.map_cons,List.cons_append,List.nil_append]
  have h1:mapO (aJ (0 :: List.range' 1 rs.length)) ((O.vec (aU 1 rs ++ a8 q) 1 0 :: bB rs).getD 0 default) = .vec (aU 1 rs ++ a8 q) 1 0:=by
   simp only [List.getD_cons_zero,mapO]
   rw [sN]
   intro i hi
   rw [oF,sF,sG,List.append_nil,List.mem_range'_1] at hi
   exact aGS i (by omega)
  rw [h1]
  congr 1
  exact M9 fun i r hr => by
   rw [show 1 + i = i + 1 by omega,List.getElem?_cons_succ]; exact wT hr
 have hzh:(O.vec (aU 1 rs ++ a8 q) 1 0 :: bB rs).all z0O = true:=by
  simp only [List.all_cons,z0O,R0,LU,ME,aC5,Bool.and_self,beq_self_eq_true]
 unfold trim
 rw [hpk,aH5 hzh,sN xs (by rw [hi]; intro i h; simp only [List.mem_singleton] at h; subst h; rfl),jL (TH hzh) xs hz]
theorem GA {m:List Bool} {s:List A} (hl:rs.length ≤ 4294967296):gc 0 m s (.vec (aU 1 rs ++ a8 q) 1 0 :: bB rs) = match box (tidy m s) with
  | .mk s1 => if idsL s1 = [0] ∧ z0As s1 = true then (s1,.vec (aU 1 rs ++ a8 q) 1 0 :: bB rs) else gcO 0 m s (.vec (aU 1 rs ++ a8 q) 1 0 :: bB rs)
  | .no => ([],[]):=by
 simp only [box]
 split
 ·rename_i hc
  unfold gc
  rw [AG,hc.1]
  have:=UW (rs:=rs) (q:=q) hl
  unfold aG at this
  rw [this]
  exact aBj hc.1 hc.2
 ·rfl
theorem aHM (hl:rs.length ≤ 4294967296):dL 0 (.vec (aU 1 rs ++ a8 q) 1 0 :: bB rs) [0] = 0 :: List.range' 1 rs.length:=by
 rw [AG]
 exact UW hl
def aLl (nf:Nat) (h:H) (ids:List Nat):List Nat:=dL nf h ids
theorem aIQ {ids:List Nat} (hl:rs.length ≤ 4294967296):dL 0 (.vec (aU 1 rs ++ a8 q) 1 0 :: bB rs) ids = if ids = [0] then 0 :: List.range' 1 rs.length else aLl 0 (.vec (aU 1 rs ++ a8 q) 1 0 :: bB rs) ids:=by
 split
 ·rename_i h; rw [h]; exact aHM hl
 ·rfl
theorem aBF {xs:List A}:trim 0 (.vec (aU 1 rs ++ a8 q) 1 0 :: bB rs) (0 :: List.range' 1 rs.length) xs = if idsL xs = [0] ∧ z0As xs = true then (xs,.vec (aU 1 rs ++ a8 q) 1 0 :: bB rs) else aLv 0 (.vec (aU 1 rs ++ a8 q) 1 0 :: bB rs) (0 :: List.range' 1 rs.length) xs:=by
 split
 ·rename_i hc
  exact aBj hc.1 hc.2
 ·rfl
end
end Ev
end Go.Proofs.YtejmccgfigiadaaGreat
