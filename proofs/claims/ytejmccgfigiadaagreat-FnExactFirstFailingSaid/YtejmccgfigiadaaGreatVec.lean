/-
  Memory with rows: what is reached, in which order.
-/
import Derived.Test.YtejmccgfigiadaaGreatRead
set_option linter.unusedSimpArgs false
set_option linter.unusedVariables false
namespace Go.Proofs.YtejmccgfigiadaaGreat
namespace Ev
theorem aDg {h:H} {ids P T:List Nat} (hfix:P ++ T = ids ++ P.flatMap (kids h)) (hT:∀ i ∈ T,kids h i = []) (hprog:∀ k,k < P.length → k < ids.length + ((P.take k).flatMap (kids h)).length) (hnd:(P ++ T).Nodup) (hv:∀ i ∈ P ++ T,∃ o,h[i]? = some o ∧ o ≠ .void) {n:Nat} (hf:(P ++ T).length ≤ n):aE n h ids [] = P ++ T:=by
 generalize hL:P ++ T = L at *
 have hTf:T.flatMap (kids h) = []:=by
  rw [List.flatMap_eq_nil_iff]; exact hT
 have hLf:L.flatMap (kids h) = P.flatMap (kids h):=by rw [← hL,List.flatMap_append,hTf,List.append_nil]
 have fix:L = ids ++ L.flatMap (kids h):=by rw [hLf]; exact hfix
 have prog:∀ k,k < L.length → k < ids.length + ((L.take k).flatMap (kids h)).length:=by
  intro k hk
  by_cases h1:k < P.length
  ·have:=hprog k h1
   have e:L.take k = P.take k:=by rw [← hL,List.take_append_of_le_length (by omega)]
   rw [e]; exact this
  ·have e:(L.take k).flatMap (kids h) = P.flatMap (kids h):=by
    rw [← hL,List.take_append,List.flatMap_append,List.take_of_length_le (by omega)]
    have:(T.take (k - P.length)).flatMap (kids h) = []:=by
     rw [List.flatMap_eq_nil_iff]; intro i hi; exact hT i (List.mem_of_mem_take hi)
    rw [this,List.append_nil]
   rw [e]
   have:=congrArg List.length hfix
   rw [List.length_append] at this
   omega
 have key:∀ (n k:Nat),k ≤ L.length → L.length - k ≤ n → aE n h ((ids ++ (L.take k).flatMap (kids h)).drop k) (L.take k) = L:=by
  intro n
  induction n with
  | zero =>
   intro k hk hn
   have:k = L.length:=by omega
   subst this
   simp only [aE,List.take_length]
  | succ n ih =>
   intro k hk hn
   by_cases hkl:k = L.length
   ·subst hkl
    rw [List.take_length,← fix,List.drop_length]
    simp only [aE]
   ·have hk':k < L.length:=by omega
    have hp:=prog k hk'
    have hX:k < (ids ++ (L.take k).flatMap (kids h)).length:=by rw [List.length_append]; exact hp
    have hget:(ids ++ (L.take k).flatMap (kids h))[k]'hX = L[k]:=by
     have e:L = (ids ++ (L.take k).flatMap (kids h)) ++ (L.drop k).flatMap (kids h):=by
      rw [List.append_assoc,← List.flatMap_append,List.take_append_drop]; exact fix
     have e2:L[k]? = (ids ++ (L.take k).flatMap (kids h))[k]?:=by
      conv => lhs; rw [e]
      rw [List.getElem?_append_left hX]
     rw [List.getElem?_eq_getElem hk',List.getElem?_eq_getElem hX] at e2
     exact (Option.some.inj e2).symm
    rw [List.drop_eq_getElem_cons hX,hget]
    obtain ⟨o,ho,hov⟩:=hv L[k] (List.getElem_mem hk')
    have hni:L[k] ∉ L.take k:=by
     intro hm
     obtain ⟨j,hj,he⟩:=List.getElem_of_mem hm
     rw [List.length_take] at hj
     rw [List.getElem_take] at he
     exact (List.pairwise_iff_getElem.1 hnd) j k (by omega) hk' (by omega) he
    have hc:(L.take k).contains L[k] = false:=by simpa using hni
    have hstep:aE (n + 1) h (L[k] :: (ids ++ (L.take k).flatMap (kids h)).drop (k + 1)) (L.take k) = aE n h ((ids ++ (L.take k).flatMap (kids h)).drop (k + 1) ++ kids h L[k]) (L.take k ++ [L[k]]):=by
     simp only [aE,hc,Bool.false_eq_true,if_false,ho,kids]
     cases o <;> first | rfl | (simp; done) | exact absurd rfl hov
    rw [hstep]
    have ht:L.take (k + 1) = L.take k ++ [L[k]]:=by rw [List.take_add_one,List.getElem?_eq_getElem hk']; rfl
    have hd:(ids ++ (L.take k).flatMap (kids h)).drop (k + 1) ++ kids h L[k] = (ids ++ (L.take (k + 1)).flatMap (kids h)).drop (k + 1):=by
     rw [ht,List.flatMap_append,List.flatMap_singleton,← List.append_assoc]
     exact (List.drop_append_of_le_length hX).symm
    rw [hd,← ht]
    exact ih (k + 1) (by omega) (by omega)
 have:=key n 0 (by omega) (by omega)
 simpa using this
def bD (b:Nat):List (List Int) → List A
 | [] => []
 | r :: rs => .sl b 0 0 r.length :: bD (b + 1) rs
def bR (rs:List (List Int)):H:=rs.map fun r => .arr (r.map (.int .i64)) 1 0
theorem EG:∀ (rs:List (List Int)) (b:Nat),idsL (bD b rs) = List.range' b rs.length
 | [],b => by simp [bD,idsL]
 | r :: rs,b => by simp [bD,idsL,idsA,EG rs,List.range'_succ]
theorem NF:∀ (rs:List (List Int)) (b:Nat),(bD b rs).length = rs.length
 | [],b => rfl
 | r :: rs,b => by simp [bD,NF rs]
theorem aJb:∀ (rs:List (List Int)) (b:Nat) (r:List Int),bD b (rs ++ [r]) = bD b rs ++ [.sl (b + rs.length) 0 0 r.length]
 | [],b,r => by simp [bD]
 | q :: rs,b,r => by
  simp only [List.cons_append,bD,aJb rs,List.length_cons]
  rw [show b + 1 + rs.length = b + (rs.length + 1) by omega]
theorem aRS (rs:List (List Int)) (r:List Int):bR rs ++ [.arr (r.map (.int .i64)) 1 0] = bR (rs ++ [r]):=by simp [bR]
theorem oY (rs:List (List Int)):(bR rs).length = rs.length:=by simp [bR]
theorem M8 {rs:List (List Int)} {i:Nat} {r:List Int} (h:rs[i]? = some r):(bR rs)[i]? = some (.arr (r.map (.int .i64)) 1 0):=by simp [bR,h]
theorem U6 {f:Nat → Option Nat} {c:Nat}:∀ {rs:List (List Int)} {b d:Nat},(∀ i,i < rs.length → f (b + i) = some (d + i)) → aW f (bD b rs) = bD d rs
 | [],b,d,_ => by simp [bD,aW]
 | r :: rs,b,d,h => by
  have h0:=h 0 (by simp)
  simp only [Nat.add_zero] at h0
  simp only [bD,aW,mapA,h0]
  rw [U6 (c:=c) (rs:=rs) (b:=b + 1) (d:=d + 1) fun i hi => by
   have:=h (i + 1) (by simp; omega)
   rw [show b + 1 + i = b + (i + 1) by omega,this]
   congr 1; omega]
theorem aNK (f:Nat → Option Nat) (rs:List (List Int)):(bR rs).map (mapO f) = bR rs:=by
 simp only [bR,List.map_map]
 rfl
theorem aTD {A B:List Nat} {x:Nat} (h:x ∉ A):aN (A ++ B) x = (aN B x).map (A.length + ·):=by
 induction A with
 | nil =>
  simp only [List.nil_append,List.length_nil]
  cases aN B x <;> simp
 | cons a A ih =>
  simp only [List.mem_cons,not_or] at h
  simp only [List.cons_append,aN,if_neg (Ne.symm h.1),ih h.2,List.length_cons]
  cases aN B x with
  | none => rfl
  | some k => simp; omega
theorem aGl:∀ (n b i:Nat),i < n → aN (List.range' b n) (b + i) = some i
 | n + 1,b,0,_ => by simp [List.range'_succ,aN]
 | n + 1,b,i + 1,h => by
  simp only [List.range'_succ,aN]
  rw [if_neg (by omega),show b + (i + 1) = b + 1 + i by omega,aGl n (b + 1) i (by omega)]
  rfl
theorem aEt {h:H} {f:Nat → Option Nat}:∀ {rs:List (List Int)} {b:Nat},(∀ i r,rs[i]? = some r → h[b + i]? = some (.arr (r.map (.int .i64)) 1 0)) → (List.range' b rs.length).map (fun i => mapO f (h.getD i default)) = bR rs
 | [],b,_ => by simp [bR]
 | r :: rs,b,hh => by
  have h0:=hh 0 r rfl
  simp only [Nat.add_zero] at h0
  simp only [List.length_cons,List.range'_succ,List.map_cons,List.getD_eq_getElem?_getD,h0,Option.getD_some]
  have:=aEt (h:=h) (f:=f) (rs:=rs) (b:=b + 1) fun i q hq => by
   rw [show b + 1 + i = b + (i + 1) by omega]
   exact hh (i + 1) q (by simpa using hq)
  simp only [List.getD_eq_getElem?_getD] at this
  rw [this]
  rfl
mutual
theorem aXp {f:Nat → Option Nat}:∀ a:A,(∀ i ∈ idsA a,f i = some i) → mapA f a = a
 | .d x,_ => by simp only [mapA]
 | .sl id gen off len,h => by simp only [mapA,h id (by simp [idsA])]
 | .ptr id gen off,h => by simp only [mapA,h id (by simp [idsA])]
 | .mp id,h => by simp only [mapA,h id (by simp [idsA])]
 | .clo g caps,h => by simp only [mapA]; rw [FA caps (by simpa only [idsA] using h)]
 | .agg cs,h => by simp only [mapA]; rw [FA cs (by simpa only [idsA] using h)]
 | .tup cs,h => by simp only [mapA]; rw [FA cs (by simpa only [idsA] using h)]
 | .junk,_ => by simp only [mapA]
theorem FA {f:Nat → Option Nat}:∀ as:List A,(∀ i ∈ idsL as,f i = some i) → aW f as = as
 | [],_ => by simp only [aW]
 | a :: as,h => by
  simp only [idsL,List.mem_append] at h
  simp only [aW]
  rw [aXp a fun i hi => h i (.inl hi),FA as fun i hi => h i (.inr hi)]
end
mutual
def z0A:A → Bool
 | .sl _ g _ _ => g == 0
 | .ptr _ g _ => g == 0
 | .mp _ => true
 | .clo _ caps => z0As caps
 | .agg cs => z0As cs
 | .tup cs => z0As cs
 | .d _ => true
 | .junk => true
def z0As:List A → Bool
 | [] => true
 | a :: as => z0A a && z0As as
end
mutual
theorem aTV {nf:Nat} {h:H} (hg:∀ i g,fN h i = some g → g = 0):∀ a:A,z0A a = true → eM nf h a = a
 | .d x,_ => by simp only [eM]
 | .sl id gen off len,hz => by
  simp only [z0A,beq_iff_eq] at hz
  subst hz
  simp only [eM,NN]
  split
  ·rfl
  ·cases hgo:fN h id with
   | none => rfl
   | some g => have:=hg id g hgo; subst this; simp
 | .ptr id gen off,hz => by
  simp only [z0A,beq_iff_eq] at hz
  subst hz
  simp only [eM,aEp]
  split
  ·rfl
  ·cases hgo:fN h id with
   | none => rfl
   | some g => have:=hg id g hgo; subst this; simp
 | .mp id,hz => by simp only [eM]
 | .clo g caps,hz => by simp only [eM]; rw [sZ hg caps (by simpa only [z0A] using hz)]
 | .agg cs,hz => by simp only [eM]; rw [sZ hg cs (by simpa only [z0A] using hz)]
 | .tup cs,hz => by simp only [eM]; rw [sZ hg cs (by simpa only [z0A] using hz)]
 | .junk,_ => by simp only [eM]
theorem sZ {nf:Nat} {h:H} (hg:∀ i g,fN h i = some g → g = 0):∀ as:List A,z0As as = true → dL nf h as = as
 | [],_ => by simp only [dL]
 | a :: as,hz => by
  simp only [z0As,Bool.and_eq_true] at hz
  simp only [dL]
  rw [aTV hg a hz.1,sZ hg as hz.2]
end
def z0O:O → Bool
 | .arr _ _ g => g == 0
 | .box cs => z0As cs
 | .ice _ _ g => g == 0
 | .vec cs _ g => g == 0 && z0As cs
 | .log _ => true
 | .mp _ => true
 | .void => true
theorem aHa {h:H} (hz:h.all z0O = true):∀ i g,fN h i = some g → g = 0:=by
 intro i g hg
 unfold fN at hg
 cases ho:h[i]? with
 | none => rw [ho] at hg; cases hg
 | some o =>
  have:=List.all_eq_true.1 hz o (List.mem_of_getElem? ho)
  rw [ho] at hg
  cases o with
  | arr cs e g' => simp only [Option.some.injEq] at hg; subst hg; simpa [z0O] using this
  | ice cs e g' => simp only [Option.some.injEq] at hg; subst hg; simpa [z0O] using this
  | vec cs e g' => simp only [Option.some.injEq] at hg; subst hg; simp only [z0O,Bool.and_eq_true,beq_iff_eq] at this; exact this.1
  | _ => cases hg
theorem aEa {nf:Nat} {h:H} (hg:∀ i g,fN h i = some g → g = 0):∀ (os:H) (i:Nat),os.all z0O = true → jV nf h i os = os
 | [],_,_ => by simp only [jV]
 | o :: os,i,hz => by
  simp only [List.all_cons,Bool.and_eq_true] at hz
  simp only [jV]
  rw [aEa hg os (i + 1) hz.2]
  congr 1
  cases o with
  | arr cs e g => have:=hz.1; simp only [z0O,beq_iff_eq] at this; subst this; simp [dI]
  | ice cs e g => have:=hz.1; simp only [z0O,beq_iff_eq] at this; subst this; simp [dI]
  | box cs => simp only [dI]; rw [sZ hg cs (by simpa only [z0O] using hz.1)]
  | vec cs e g =>
   have:=hz.1
   simp only [z0O,Bool.and_eq_true,beq_iff_eq] at this
   obtain ⟨rfl,h2⟩:=this
   simp only [dI]
   rw [sZ hg cs h2]
   simp
  | log cs => simp only [dI]
  | mp es => simp only [dI]
  | void => simp only [dI]
theorem aV2 {nf:Nat} {h:H} (hz:h.all z0O = true):oN nf h = h:=aEa (aHa hz) h 0 hz
theorem aG6:∀ (as bs:List A),z0As (as ++ bs) = (z0As as && z0As bs)
 | [],bs => by simp [z0As]
 | a :: as,bs => by simp [z0As,aG6 as bs,Bool.and_assoc]
theorem aCH:∀ (rs:List (List Int)) (b:Nat),z0As (bD b rs) = true
 | [],b => by simp [bD,z0As]
 | r :: rs,b => by simp [bD,z0As,z0A,aCH rs]
theorem aOB (rs:List (List Int)):(bR rs).all z0O = true:=by simp [bR,z0O]
def gcO (nf:Nat) (m:List Bool) (s:List A) (h:H):List A × H:=gc nf m s h
def aYU (nf:Nat) (h:H) (ord:List Nat) (s:List A):List A × H:=trim nf h ord s
def bM (q:Nat):List A:=List.replicate q (.d .nils)
theorem aAL (q:Nat):bM (q + 1) = .d .nils :: bM q:=rfl
theorem aUv (q:Nat):(bM q).length = q:=by simp [bM]
theorem E8:∀ q:Nat,idsL (bM q) = []
 | 0 => by simp [bM,idsL]
 | q + 1 => by rw [aAL]; simp [idsL,idsA,E8 q]
theorem aD4:∀ q:Nat,z0As (bM q) = true
 | 0 => by simp [bM,z0As]
 | q + 1 => by rw [aAL]; simp [z0As,z0A,aD4 q]
section
variable {rs:List (List Int)} {q:Nat}
theorem aUO:kids (.vec (bD 1 rs ++ bM q) 1 0 :: bR rs) 0 = List.range' 1 rs.length:=by
 simp only [kids,List.getElem?_cons_zero,y2,EG,E8,List.append_nil]
theorem aMu:∀ i ∈ List.range' 1 rs.length,∃ r:List Int,(O.vec (bD 1 rs ++ bM q) 1 0 :: bR rs)[i]? = some (.arr (r.map (.int .i64)) 1 0):=by
 intro i hi
 simp only [List.mem_range'_1] at hi
 obtain ⟨j,rfl⟩:∃ j,i = j + 1:=⟨i - 1,by omega⟩
 have hj:j < rs.length:=by omega
 exact ⟨rs[j],by rw [List.getElem?_cons_succ]; exact M8 (List.getElem?_eq_getElem hj)⟩
theorem aIC (hl:rs.length ≤ 4294967296):aE aK (.vec (bD 1 rs ++ bM q) 1 0 :: bR rs) [0] [] = [0] ++ List.range' 1 rs.length:=by
 refine aDg (P:=[0]) (T:=List.range' 1 rs.length) ?_ ?_ ?_ ?_ ?_ ?_
 ·simp [aUO]
 ·intro i hi
  obtain ⟨r,hr⟩:=aMu (q:=q) i hi
  simp only [kids,hr]
 ·intro k hk; simp at hk; subst hk; simp
 ·simp only [List.cons_append,List.nil_append,List.nodup_cons]
  exact ⟨by simp,List.nodup_range'⟩
 ·intro i hi
  simp only [List.cons_append,List.nil_append,List.mem_cons] at hi
  rcases hi with rfl | hi
  ·exact ⟨_,rfl,by simp⟩
  ·obtain ⟨r,hr⟩:=aMu (q:=q) i hi
   exact ⟨_,hr,by simp⟩
 ·simp only [List.length_append,List.length_cons,List.length_nil,List.length_range',aK]; omega
theorem aRv (i:Nat) (hi:i < rs.length + 1):aN ([0] ++ List.range' 1 rs.length) i = some i:=by
 cases i with
 | zero => rfl
 | succ i =>
  rw [aTD (by simp)]
  rw [show i + 1 = 1 + i by omega,aGl _ _ _ (by omega)]
  simp
theorem aMz {xs:List A} (hi:idsL xs = [0]) (hz:z0As xs = true):trim 0 (.vec (bD 1 rs ++ bM q) 1 0 :: bR rs) ([0] ++ List.range' 1 rs.length) xs = (xs,.vec (bD 1 rs ++ bM q) 1 0 :: bR rs):=by
 have hpk:pack (.vec (bD 1 rs ++ bM q) 1 0 :: bR rs) ([0] ++ List.range' 1 rs.length) = .vec (bD 1 rs ++ bM q) 1 0 :: bR rs:=by
  simp only [pack,List.map_append,List.map_cons,List.map_nil,List.cons_append,List.nil_append]
  have h1:mapO (aN (0 :: List.range' 1 rs.length)) ((O.vec (bD 1 rs ++ bM q) 1 0 :: bR rs).getD 0 default) = .vec (bD 1 rs ++ bM q) 1 0:=by
   simp only [List.getD_cons_zero,mapO]
   rw [FA]
   intro i hi
   rw [y2,EG,E8,List.append_nil,List.mem_range'_1] at hi
   exact aRv i (by omega)
  rw [h1]
  congr 1
  exact aEt fun i r hr => by
   rw [show 1 + i = i + 1 by omega,List.getElem?_cons_succ]; exact M8 hr
 have hzh:(O.vec (bD 1 rs ++ bM q) 1 0 :: bR rs).all z0O = true:=by
  simp only [List.all_cons,z0O,aG6,aCH,aD4,aOB,Bool.and_self,beq_self_eq_true]
 unfold trim
 rw [hpk,aV2 hzh,FA xs (by rw [hi]; intro i h; simp only [List.mem_singleton] at h; subst h; rfl),sZ (aHa hzh) xs hz]
theorem XW {m:List Bool} {s:List A} (hl:rs.length ≤ 4294967296):gc 0 m s (.vec (bD 1 rs ++ bM q) 1 0 :: bR rs) = match box (tidy m s) with
  | .mk s1 => if idsL s1 = [0] ∧ z0As s1 = true then (s1,.vec (bD 1 rs ++ bM q) 1 0 :: bR rs) else gcO 0 m s (.vec (bD 1 rs ++ bM q) 1 0 :: bR rs)
  | .no => ([],[]):=by
 simp only [box]
 split
 ·rename_i hc
  unfold gc
  rw [zT,hc.1]
  have:=aIC (rs:=rs) (q:=q) hl
  unfold aK at this
  rw [this]
  exact aMz hc.1 hc.2
 ·rfl
theorem aS1 (hl:rs.length ≤ 4294967296):iF 0 (.vec (bD 1 rs ++ bM q) 1 0 :: bR rs) [0] = 0 :: List.range' 1 rs.length:=by
 rw [zT]
 exact aIC hl
def aZs (nf:Nat) (h:H) (ids:List Nat):List Nat:=iF nf h ids
theorem aWh {ids:List Nat} (hl:rs.length ≤ 4294967296):iF 0 (.vec (bD 1 rs ++ bM q) 1 0 :: bR rs) ids = if ids = [0] then 0 :: List.range' 1 rs.length else aZs 0 (.vec (bD 1 rs ++ bM q) 1 0 :: bR rs) ids:=by
 split
 ·rename_i h; rw [h]; exact aS1 hl
 ·rfl
theorem aMH {xs:List A}:trim 0 (.vec (bD 1 rs ++ bM q) 1 0 :: bR rs) (0 :: List.range' 1 rs.length) xs = if idsL xs = [0] ∧ z0As xs = true then (xs,.vec (bD 1 rs ++ bM q) 1 0 :: bR rs) else aYU 0 (.vec (bD 1 rs ++ bM q) 1 0 :: bR rs) (0 :: List.range' 1 rs.length) xs:=by
 split
 ·rename_i hc
  exact aMz hc.1 hc.2
 ·rfl
end
end Ev
end Go.Proofs.YtejmccgfigiadaaGreat
