/-
  The exact laws' own functions, at automata: sizes, marks, what is held, copies.
-/
import Derived.Test.YtejmccgfigiadaaGreatBlock
set_option linter.unusedSimpArgs false
set_option linter.unusedVariables false
set_option maxRecDepth 8000
set_option maxHeartbeats 4000000
namespace Go.Proofs.YtejmccgfigiadaaGreat
namespace Ev
def aN:List (List Int) → Nat
 | [] => 0
 | r :: rs => r.length + aN rs
section
section
variable {h h2:H} {nf:Nat} (hn:nf = h.length) (hk:∀ o ∈ h,∀ j ∈ dZ o,j < nf)
include hn hk
end
theorem aBt {b k:Nat}:∀ {rs:List (List Int)} {b k:Nat},k < rs.length → ((aC b rs ++ aF 0).drop k).head? = some (.sl (b + k) 0 0 (rs.getD k []).length)
 | [],b,k,h => by simp at h
 | r :: rs,b,0,h => by simp [aC]
 | r :: rs,b,k + 1,h => by
  simp only [aC,List.cons_append,List.drop_succ_cons]
  rw [aBt (b:=b) (k:=k) (by simpa using h)]
  simp only [List.getD_cons_succ]
  congr 2
  omega
theorem aE0 {d:List (List Int)} {k:Nat} (h:k < d.length):(aH d)[k]? = some (.arr (ints (d.getD k [])) 1 0):=by
 rw [List.getD_eq_getElem?_getD,List.getElem?_eq_getElem h]
 exact PA (List.getElem?_eq_getElem h)
theorem aIB {d:List (List Int)} {k:Nat} {r:List Int}:(aH d).set k (.arr (ints r) 1 0) = aH (d.set k r):=by
 unfold aH
 rw [List.map_set]
 rfl
end
section
theorem J1 {m:List Bool} {s:List A} {h:H} {ord:List Nat} (hr:aD aG h (idsL (tidy m s)) [] = ord):gc 0 m s h = (aU 0 (pack h ord) (aE (aI ord) (tidy m s)),cF 0 (pack h ord)):=by
 unfold gc trim
 rw [O1]
 unfold aG at hr
 rw [hr]
theorem fB {h:H}:∀ (os:H) (i:Nat),dU 0 h i os = os.map (bW 0 h 0)
 | [],_ => rfl
 | o :: os,i => by
  simp only [dU,List.map_cons,fB os (i + 1)]
  cases o <;> simp [bW]
theorem fY {h:H} {rs:List (List Int)}:(aH rs).map (bW 0 h 0) = aH rs:=by
 simp [aH,bW]
theorem eF {nf:Nat} {h:H}:∀ (xs ys:List A),aU nf h (xs ++ ys) = aU nf h xs ++ aU nf h ys
 | [],ys => by simp [aU]
 | x :: xs,ys => by simp [aU,eF xs ys]
theorem eY {h:H}:∀ {rs:List (List Int)} {b:Nat},(∀ i,i < rs.length → a6 h (b + i) = some 0) → aU 0 h (aC b rs) = aC b rs
 | [],b,_ => by simp [aC,aU]
 | r :: rs,b,hh => by
  have h0:=hh 0 (by simp)
  simp only [Nat.add_zero] at h0
  simp only [aC,aU,bM,gI,Nat.not_lt_zero,if_false,h0,if_true]
  rw [eY (rs:=rs) (b:=b + 1) fun i hi => by
   rw [show b + 1 + i = b + (i + 1) by omega]
   exact hh (i + 1) (by simp; omega)]
theorem aLo {f:Nat → Option Nat} {h:H} {b:Nat} {rs:List (List Int)} (hh:∀ (i:Nat) (r:List Int),rs[i]? = some r → h[b + i]? = some (.arr (ints r) 1 0)):(List.range' b rs.length).map (fun i => mapO f (h.getD i default)) = aH rs:=aB4 hh
theorem BN {rs:List (List Int)} {p:H} {i:Nat} {r:List Int} (h:rs[i]? = some r):(aH rs ++ p)[i]? = some (.arr (ints r) 1 0):=by
 rw [List.getElem?_append_left (by rw [cB]; exact pD h)]
 exact PA h
theorem A3 {b k:Nat} {rs:List (List Int)} (h:k = rs.length):(aC b rs ++ aF 0).take k = aC b rs:=by
 have hn:aF 0 = []:=rfl
 rw [hn,List.append_nil,List.take_of_length_le (by rw [fT]; omega)]
section
variable {x0 x1:D} {k z:Nat} {cs cr:List D} {d:List (List Int)} {p:H}
theorem bN {h:H} {i:Nat} {r:List D} {e g:Nat} (hr:h[i]? = some (.arr r e g)):kids h i = []:=by simp only [kids,hr]
mutual
theorem aKH {f g:Nat → Option Nat}:∀ a:A,(∀ i ∈ idsA a,f i = g i) → mapA f a = mapA g a
 | .d x,_ => by simp only [mapA]
 | .sl id gen off len,hi => by simp only [mapA,hi id (by simp [idsA])]
 | .ptr id gen off,hi => by simp only [mapA,hi id (by simp [idsA])]
 | .mp id,hi => by simp only [mapA,hi id (by simp [idsA])]
 | .clo q caps,hi => by simp only [mapA]; rw [jQ caps (by simpa only [idsA] using hi)]
 | .agg cs,hi => by simp only [mapA]; rw [jQ cs (by simpa only [idsA] using hi)]
 | .tup cs,hi => by simp only [mapA]; rw [jQ cs (by simpa only [idsA] using hi)]
 | .junk,_ => by simp only [mapA]
theorem jQ {f g:Nat → Option Nat}:∀ xs:List A,(∀ i ∈ idsL xs,f i = g i) → aE f xs = aE g xs
 | [],_ => by simp only [aE]
 | a :: xs,hi => by
  simp only [idsL,List.mem_append] at hi
  simp only [aE]
  rw [aKH a fun i h => hi i (.inl h),jQ xs fun i h => hi i (.inr h)]
end
mutual
theorem aNa {f:Nat → Option Nat}:∀ a:A,z0A a = true → z0A (mapA f a) = true
 | .d x,_ => by simp only [mapA,z0A]
 | .sl id gen off len,hz => by simp only [mapA]; cases f id <;> first | rfl | exact hz
 | .ptr id gen off,hz => by simp only [mapA]; cases f id <;> first | rfl | exact hz
 | .mp id,hz => by simp only [mapA]; cases f id <;> first | rfl | exact hz
 | .clo q caps,hz => by simp only [mapA,z0A] at hz ⊢; exact wD caps hz
 | .agg cs,hz => by simp only [mapA,z0A] at hz ⊢; exact wD cs hz
 | .tup cs,hz => by simp only [mapA,z0A] at hz ⊢; exact wD cs hz
 | .junk,_ => by simp only [mapA,z0A]
theorem wD {f:Nat → Option Nat}:∀ xs:List A,z0As xs = true → z0As (aE f xs) = true
 | [],_ => by simp only [aE,z0As]
 | a :: xs,hz => by
  simp only [z0As,Bool.and_eq_true] at hz
  simp only [aE,z0As,Bool.and_eq_true]
  exact ⟨aNa a hz.1,wD xs hz.2⟩
end
end
theorem hJ {h p:H} {d:List (List Int)} (B:Nat) (hd:h.drop B = aH d ++ p):∀ (i:Nat) (r:List Int),d[i]? = some r → h[B + i]? = some (.arr (ints r) 1 0):=by
 intro i r hr
 rw [← List.getElem?_drop,hd]
 exact BN hr
theorem uF {h p:H} {d:List (List Int)} (B q:Nat) (hd:h.drop B = aH d ++ p) {o:O} (ho:p[q]? = some o) {j:Nat} (hj:j = d.length + (B + q)):h[j]? = some o:=by
 subst hj
 rw [show d.length + (B + q) = B + (d.length + q) by omega,← List.getElem?_drop,hd,List.getElem?_append_right (by rw [cB]; omega),cB,Nat.add_sub_cancel_left]
 exact ho
theorem iG {h:H} {d:List (List Int)} {B:Nat} (gr:∀ (i:Nat) (r:List Int),d[i]? = some r → h[B + i]? = some (.arr (ints r) 1 0)):∀ i ∈ List.range' B d.length,∃ r:List Int,h[i]? = some (.arr (ints r) 1 0):=by
 intro i hi
 rw [List.mem_range'_1] at hi
 obtain ⟨j,rfl⟩:∃ j,i = B + j:=⟨i - B,by omega⟩
 exact ⟨d[j]'(by omega),gr j _ (List.getElem?_eq_getElem (by omega))⟩
theorem fO {h:H} {ids P T L:List Nat} {B n N:Nat} (hfix:P ++ (T ++ (List.range' B n ++ L)) = ids ++ P.flatMap (kids h)) (hprog:∀ k,k < P.length → k < ids.length + ((P.take k).flatMap (kids h)).length)
  (leaf:∀ i ∈ List.range' B n,∃ r:List Int,h[i]? = some (.arr (ints r) 1 0)) (hT:∀ i ∈ T ++ L,∃ cs e g,h[i]? = some (.arr cs e g)) (hP:∀ i ∈ P,∃ o,h[i]? = some o ∧ o ≠ .void)
  (hnd:(P ++ (T ++ L)).Nodup) (hout:∀ i ∈ P ++ (T ++ L),i < B ∨ B + n ≤ i) (hf:P.length + T.length + n + L.length ≤ N):aD N h ids [] = P ++ (T ++ (List.range' B n ++ L)):=by
 refine aIQ hfix ?_ hprog ?_ ?_ ?_
 ·intro i hi
  rcases List.mem_append.1 hi with h1 | h1
  ·obtain ⟨cs,e,g,h2⟩:=hT i (List.mem_append.2 (.inl h1)); exact bN h2
  ·rcases List.mem_append.1 h1 with h2 | h2
   ·obtain ⟨r,hr⟩:=leaf i h2; exact bN hr
   ·obtain ⟨cs,e,g,h3⟩:=hT i (List.mem_append.2 (.inr h2)); exact bN h3
 ·have hp:(P ++ (T ++ (List.range' B n ++ L))).Perm (List.range' B n ++ (P ++ (T ++ L))):=by
   have e1:(T ++ (List.range' B n ++ L)).Perm (List.range' B n ++ (T ++ L)):=by
    rw [← List.append_assoc T _ L,← List.append_assoc _ T L]
    exact List.Perm.append_right L List.perm_append_comm
   refine (List.Perm.append_left P e1).trans ?_
   rw [← List.append_assoc P _ (T ++ L),← List.append_assoc _ P (T ++ L)]
   exact List.Perm.append_right (T ++ L) List.perm_append_comm
  rw [hp.nodup_iff,List.nodup_append]
  refine ⟨List.nodup_range',hnd,fun a ha b hb e => ?_⟩
  subst e
  rw [List.mem_range'_1] at ha
  have:=hout a hb
  omega
 ·intro i hi
  rcases List.mem_append.1 hi with h1 | h1
  ·exact hP i h1
  ·rcases List.mem_append.1 h1 with h1 | h1
   ·obtain ⟨cs,e,g,h2⟩:=hT i (List.mem_append.2 (.inl h1)); exact ⟨_,h2,by simp⟩
   ·rcases List.mem_append.1 h1 with h2 | h2
    ·obtain ⟨r,hr⟩:=leaf i h2; exact ⟨_,hr,by simp⟩
    ·obtain ⟨cs,e,g,h3⟩:=hT i (List.mem_append.2 (.inr h2)); exact ⟨_,h3,by simp⟩
 ·simp only [List.length_append,List.length_range']; omega
theorem iE {ord A L:List Nat} {B C n:Nat} (pk:∀ i j,ord[j]? = some i → aI ord i = some j) (ho:ord = A ++ (List.range' B n ++ L)) (hA:A.length = C):∀ i,i < n → aI ord (B + i) = some (C + i):=by
 intro i hi
 refine pk _ _ ?_
 rw [ho,List.getElem?_append_right (by omega),hA,Nat.add_sub_cancel_left,List.getElem?_append_left (by simpa using hi),List.getElem?_range' hi]
 simp
theorem O5 {ord A L:List Nat} {B C n:Nat} (pk:∀ i j,ord[j]? = some i → aI ord i = some j) (ho:ord = A ++ (List.range' B n ++ L)) (hA:A.length = C) (q:Nat) {i j:Nat} (hq:L[q]? = some i) (hj:j = n + (C + q)):aI ord i = some j:=by
 subst hj
 refine pk _ _ ?_
 rw [ho,List.getElem?_append_right (by omega),hA,show n + (C + q) - C = n + q by omega,List.getElem?_append_right (by simp),List.length_range',Nat.add_sub_cancel_left]
 exact hq
theorem mE {K p:H} {d:List (List Int)} {C:Nat} (hd:K.drop C = aH d ++ p):∀ i,i < d.length → a6 K (C + i) = some 0:=by
 intro i hi
 have:=hJ C hd i _ (List.getElem?_eq_getElem hi)
 simp only [a6,this]
theorem jX {h:H} {ord A L:List Nat} {d:List (List Int)} {B:Nat} (ho:ord = A ++ (List.range' B d.length ++ L)) (gr:∀ (i:Nat) (r:List Int),d[i]? = some r → h[B + i]? = some (.arr (ints r) 1 0)):pack h ord = A.map (fun i => mapO (aI ord) (h.getD i default)) ++ (aH d ++ L.map (fun i => mapO (aI ord) (h.getD i default))):=by
 unfold pack
 conv => lhs; arg 2; rw [ho]
 rw [List.map_append,List.map_append,aLo gr]
end
mutual
theorem aK5 {p:H} (h0:a6 p 0 = none):∀ a:A,bM 1 p a = bM 0 p a
 | .d x => by simp only [bM]
 | .sl id gen off len => by
  simp only [bM,gI,Nat.not_lt_zero,if_false]
  by_cases hi:id < 1
  ·obtain rfl:id = 0:=by omega
   simp [h0]
  ·rw [if_neg hi]
 | .ptr id gen off => by
  simp only [bM,CI,Nat.not_lt_zero,if_false]
  by_cases hi:id < 1
  ·obtain rfl:id = 0:=by omega
   simp [h0]
  ·rw [if_neg hi]
 | .mp id => by simp only [bM]
 | .clo g cs => by simp only [bM]; rw [tY h0 cs]
 | .agg cs => by simp only [bM]; rw [tY h0 cs]
 | .tup cs => by simp only [bM]; rw [tY h0 cs]
 | .junk => by simp only [bM]
theorem tY {p:H} (h0:a6 p 0 = none):∀ xs:List A,aU 1 p xs = aU 0 p xs
 | [] => by simp only [aU]
 | x :: xs => by simp only [aU]; rw [aK5 h0 x,tY h0 xs]
end
theorem aK2 {p:H} (h0:a6 p 0 = none) {i:Nat} (hi:1 ≤ i) (o:O):bW 1 p i o = bW 0 p i o:=by
 cases o <;> simp only [bW,Nat.not_lt_zero,if_false,tY h0,if_neg (show ¬ i < 1 by omega)]
theorem SY {p:H} (h0:a6 p 0 = none):∀ (os:H) (i:Nat),1 ≤ i → dU 1 p i os = dU 0 p i os
 | [],i,_ => rfl
 | o :: os,i,hi => by simp only [dU]; rw [aK2 h0 hi,SY h0 os (i + 1) (by omega)]
theorem aAJ {x y:D} {t:H} {l:List Nat} {s:List A}:trim 1 (.box [.d x,.d y] :: t) (0 :: l) s = trim 0 (.box [.d x,.d y] :: t) (0 :: l) s:=by
 have hp:pack (.box [.d x,.d y] :: t) (0 :: l) = .box [.d x,.d y] :: l.map fun i => mapO (aI (0 :: l)) ((O.box [.d x,.d y] :: t).getD i default):=by
  simp [pack,mapO,aE,mapA]
 have h0:a6 (pack (.box [.d x,.d y] :: t) (0 :: l)) 0 = none:=by rw [hp]; rfl
 unfold trim
 rw [tY h0]
 congr 1
 unfold cF
 generalize hq:pack (.box [.d x,.d y] :: t) (0 :: l) = p at *
 obtain ⟨os,hos⟩:∃ os,p = .box [.d x,.d y] :: os:=⟨_,hp⟩
 have key:∀ w:H,w = .box [.d x,.d y] :: os → dU 1 p 0 w = dU 0 p 0 w:=by
  intro w hw
  subst hw
  simp only [dU]
  rw [SY h0 _ (0 + 1) (Nat.le_refl _)]
  simp only [bW,aU,bM]
 exact key p hos
theorem aLb {x y:D} {t:H} {n:Nat} {l:List Nat}:aD (n + 1) (.box [.d x,.d y] :: t) (0 :: l) [0] = aD n (.box [.d x,.d y] :: t) l [0]:=by
 simp [aD]
theorem JD {x y:D} {t:H} {n:Nat} {l:List Nat}:aD (n + 1) (.box [.d x,.d y] :: t) (0 :: l) [] = aD n (.box [.d x,.d y] :: t) l [0]:=by
 simp [aD,idsL,idsA]
theorem jU:∀ (n:Nat) (h:H) (todo acc:List Nat),∃ q,aD n h todo acc = acc ++ q
 | 0,h,todo,acc => ⟨[],by simp [aD]⟩
 | n + 1,h,[],acc => ⟨[],by simp [aD]⟩
 | n + 1,h,i :: todo,acc => by
  unfold aD
  split
  ·exact jU n h todo acc
  ·split
   ·obtain ⟨q,hq⟩:=jU n h (todo ++ idsL _) (acc ++ [i]); exact ⟨i :: q,by rw [hq]; simp⟩
   ·obtain ⟨q,hq⟩:=jU n h (todo ++ idsL _) (acc ++ [i]); exact ⟨i :: q,by rw [hq]; simp⟩
   ·exact jU n h todo acc
   ·obtain ⟨q,hq⟩:=jU n h todo (acc ++ [i]); exact ⟨i :: q,by rw [hq]; simp⟩
   ·exact jU n h todo acc
theorem aL9 {x y:D} {t:H} {l:List Nat}:dF 1 (.box [.d x,.d y] :: t) (0 :: l) = dF 0 (.box [.d x,.d y] :: t) (0 :: l):=by
 rw [qM,qM]
 have e1:eE (List.take 1 (O.box [.d x,.d y] :: t)) ++ 0 :: l = 0 :: l:=by simp [eE,idsL,idsA]
 have e2:eE (List.take 0 (O.box [.d x,.d y] :: t)) ++ 0 :: l = 0 :: l:=by simp [eE]
 have e3:List.range 1 = [0]:=rfl
 have e4:List.range 0 = ([]:List Nat):=rfl
 rw [e1,e2,e3,e4,show (1099511627776:Nat) = 1099511627775 + 1 from rfl,aLb,JD]
theorem aEL {x y:D} {t:H} {l:List Nat}:dF 1 (.box [.d x,.d y] :: t) l = aD (aG + 1) (.box [.d x,.d y] :: t) (0 :: l) []:=by
 rw [qM,JD]
 have e1:eE (List.take 1 (O.box [.d x,.d y] :: t)) ++ l = l:=by simp [eE,idsL,idsA]
 have e3:List.range 1 = [0]:=rfl
 rw [e1,e3]
 rfl
theorem aNV {m:List Bool} {s:List A} {x y:D} {t:H} {l:List Nat} (hid:idsL (tidy m s) = 0 :: l):gc 1 m s (.box [.d x,.d y] :: t) = gc 0 m s (.box [.d x,.d y] :: t):=by
 unfold gc
 rw [hid,aL9]
 obtain ⟨q,hq⟩:=jU 1099511627775 (.box [.d x,.d y] :: t) l [0]
 have:dF 0 (.box [.d x,.d y] :: t) (0 :: l) = 0 :: q:=by
  rw [qM]
  have e2:eE (List.take 0 (O.box [.d x,.d y] :: t)) ++ 0 :: l = 0 :: l:=by simp [eE]
  have e4:List.range 0 = ([]:List Nat):=rfl
  rw [e2,e4,show (1099511627776:Nat) = 1099511627775 + 1 from rfl,JD,hq]
  rfl
 rw [this,aAJ]
theorem OQ {m:List Bool} {s:List A} {x y:D} {t h:H} {l:List Nat} (hh:O.box [.d x,.d y] :: t = h) (hid:idsL (tidy m s) = 0 :: l):gc 1 m s h = gc 0 m s h:=by
 subst hh
 exact aNV hid
theorem YZ {m:List Bool} {s:List A} {x y:D} {t h:H} {l ord:List Nat} (hh:O.box [.d x,.d y] :: t = h) (hi:idsL (tidy m s) = l) (hr:aD (aG + 1) h (0 :: l) [] = ord):gc 1 m s h = (aU 0 (pack h ord) (aE (aI ord) (tidy m s)),cF 0 (pack h ord)):=by
 subst hh
 unfold gc
 rw [hi,aEL,hr]
 obtain ⟨q,hq⟩:=jU aG (.box [.d x,.d y] :: t) l [0]
 have e:ord = 0 :: q:=by
  rw [← hr,JD,hq]
  rfl
 rw [e,aAJ]
 rfl
def QI (n:Nat) (ids:List Nat):Bool:=decide (ids = [3,n + 8])
theorem aHu {n:Nat} {ke2:Nat} (he2:ke2 = n + 8):QI n [3,ke2] = true:=by subst he2; simp [QI]
def BV (n i:Nat):Option Nat:=if i = 0 then some 0 else if i = 3 then some 1 else if i = n + 8 then some 2 else none
theorem aBk {n:Nat}:BV n 3 = some (1):=by unfold BV; repeat (first | rfl | rw [if_pos rfl] | rw [if_neg (by omega)])
theorem YY {n k:Nat} (h:k = n + 8):BV n k = some (2):=by subst h; unfold BV; repeat (first | rfl | rw [if_pos rfl] | rw [if_neg (by omega)])
theorem aME {m:List Bool} {s:List A} {y1 y2 x0 x1:D} {k z:Nat} {cs:List D} {d:List (List Int)} (hl:d.length ≤ 4294967296):gc 1 m s (.box [.d y1,.d y2] :: .arr [] 0 0 :: .arr [] 0 0 :: .box [.d x0,.sl 1 0 0 0,.sl 2 0 0 0] :: .vec (aC 6 d ++ aF 0) 1 0 :: .arr cs 1 0 :: (aH d ++ [.arr [] 0 0,.arr [] 0 0,.box [.d x1,.sl 4 0 0 k,.sl 5 0 0 z]])) = match box (tidy m s) with
  | .mk s1 => if QI d.length (idsL s1) = true ∧ z0As s1 = true then (aE (BV d.length) s1,.box [.d y1,.d y2] :: .box [.d x0,.sl 3 0 0 0,.sl 4 0 0 0] :: .box [.d x1,.sl 5 0 0 k,.sl 6 0 0 z] :: .arr [] 0 0 :: .arr [] 0 0 :: .vec (aC 7 d ++ aF 0) 1 0 :: .arr cs 1 0 :: aH d) else gcO 1 m s (.box [.d y1,.d y2] :: .arr [] 0 0 :: .arr [] 0 0 :: .box [.d x0,.sl 1 0 0 0,.sl 2 0 0 0] :: .vec (aC 6 d ++ aF 0) 1 0 :: .arr cs 1 0 :: (aH d ++ [.arr [] 0 0,.arr [] 0 0,.box [.d x1,.sl 4 0 0 k,.sl 5 0 0 z]]))
  | .no => ([],[]):=by
 simp only [box]
 split
 ·rename_i hc
  obtain ⟨hb,hz⟩:=hc
  have hids:idsL (tidy m s) = [3,d.length + 8]:=by simpa [QI] using hb
  obtain ⟨h,hh⟩:∃ h:H,O.box [.d y1,.d y2] :: .arr [] 0 0 :: .arr [] 0 0 :: .box [.d x0,.sl 1 0 0 0,.sl 2 0 0 0] :: .vec (aC 6 d ++ aF 0) 1 0 :: .arr cs 1 0 :: (aH d ++ [.arr [] 0 0,.arr [] 0 0,.box [.d x1,.sl 4 0 0 k,.sl 5 0 0 z]]) = h:=⟨_,rfl⟩
  conv => lhs; rw [hh]
  have g0:h[0]? = some (.box [.d y1,.d y2]):=by rw [← hh]; rfl
  have g1:h[1]? = some (.arr [] 0 0):=by rw [← hh]; rfl
  have g2:h[2]? = some (.arr [] 0 0):=by rw [← hh]; rfl
  have g3:h[3]? = some (.box [.d x0,.sl 1 0 0 0,.sl 2 0 0 0]):=by rw [← hh]; rfl
  have g4:h[4]? = some (.vec (aC 6 d ++ aF 0) 1 0):=by rw [← hh]; rfl
  have g5:h[5]? = some (.arr cs 1 0):=by rw [← hh]; rfl
  have hD:h.drop 6 = aH d ++ [.arr [] 0 0,.arr [] 0 0,.box [.d x1,.sl 4 0 0 k,.sl 5 0 0 z]]:=by rw [← hh]; rfl
  have gr:=hJ 6 hD
  have ge2:h[d.length + 8]? = some (.box [.d x1,.sl 4 0 0 k,.sl 5 0 0 z]):=uF 6 2 hD rfl (by omega)
  have k0:kids h (0) = []:=by simp [kids,g0,idsL,idsA]
  have k3:kids h (3) = [1,2]:=by simp [kids,g3,idsL,idsA]
  have ke2:kids h (d.length + 8) = [4,5]:=by simp [kids,ge2,idsL,idsA]
  have k1:kids h (1) = []:=bN g1
  have k2:kids h (2) = []:=bN g2
  have k4:kids h (4) = List.range' 6 d.length:=by simp [kids,g4,bL,bU,dB]
  have leaf:=iG gr
  have hr:aD (aG + 1) h [0,3,d.length + 8] [] = [0,3,d.length + 8,1,2,4] ++ ([5] ++ (List.range' 6 d.length ++ [])):=fO (by simp [k0,k3,ke2,k1,k2,k4]) (by intro q hq; simp only [List.length_cons,List.length_nil] at hq; have:q = 0 ∨ q = 1 ∨ q = 2 ∨ q = 3 ∨ q = 4 ∨ q = 5:=(by omega); rcases this with rfl | rfl | rfl | rfl | rfl | rfl <;> simp [k0,k3,ke2,k1,k2]) leaf (by intro i hi; simp at hi; subst hi; exact ⟨_,_,_,by assumption⟩) (by intro i hi; simp at hi; rcases hi with rfl | rfl | rfl | rfl | rfl | rfl <;> exact ⟨_,by assumption,by simp⟩) (by simp <;> omega) (by intro i hi; simp at hi; omega) (by simp only [aG,List.length_cons,List.length_nil]; omega)
  generalize hord:[0,3,d.length + 8,1,2,4] ++ ([5] ++ (List.range' 6 d.length ++ [])) = ord at hr
  have hA:ord = ([0,3,d.length + 8,1,2,4] ++ [5]) ++ (List.range' 6 d.length ++ []):=by rw [← hord,List.append_assoc]
  have pk:∀ i j,ord[j]? = some i → aI ord i = some j:=fun i j h1 => dI (by rw [← hr]; exact bT (aG + 1) h _ [] (by simp)) h1
  have p0:=pk (0) 0 (by rw [← hord]; rfl)
  have p3:=pk (3) 1 (by rw [← hord]; rfl)
  have pe2:=pk (d.length + 8) 2 (by rw [← hord]; rfl)
  have p1:=pk (1) 3 (by rw [← hord]; rfl)
  have p2:=pk (2) 4 (by rw [← hord]; rfl)
  have p4:=pk (4) 5 (by rw [← hord]; rfl)
  have p5:=pk (5) 6 (by rw [← hord]; rfl)
  have pr:=iE (C:=7) pk hA rfl
  obtain ⟨K,hK⟩:∃ K:H,O.box [.d y1,.d y2] :: .box [.d x0,.sl 3 0 0 0,.sl 4 0 0 0] :: .box [.d x1,.sl 5 0 0 k,.sl 6 0 0 z] :: .arr [] 0 0 :: .arr [] 0 0 :: .vec (aC 7 d ++ aF 0) 1 0 :: .arr cs 1 0 :: aH d = K:=⟨_,rfl⟩
  have hni:∀ f,aE f (aF 0) = aF 0:=fun _ => rfl
  have hpk:pack h ord = K:=by
   have hrf:aE (aI ord) (aC 6 d) = aC 7 d:=eM (c:=0) pr
   rw [jX hA gr,← hK]
   simp only [List.cons_append,List.nil_append,List.map_cons,List.map_nil,List.getD_eq_getElem?_getD,g0,g3,ge2,g1,g2,g4,g5,Option.getD_some,mapO,aE,mapA,cR,hrf,hni,p1,p2,p4,p5,List.append_nil]
  have hKD:K.drop 7 = aH d ++ []:=by rw [← hK]; exact (List.append_nil _).symm
  have hgr:=mE hKD
  have hcm:cF 0 K = .box [.d y1,.d y2] :: .box [.d x0,.sl 3 0 0 0,.sl 4 0 0 0] :: .box [.d x1,.sl 5 0 0 k,.sl 6 0 0 z] :: .arr [] 0 0 :: .arr [] 0 0 :: .vec (aC 7 d ++ aF 0) 1 0 :: .arr cs 1 0 :: aH d:=by
   have hrf:aU 0 K (aC 7 d) = aC 7 d:=eY hgr
   have hnc:∀ h:H,aU 0 h (aF 0) = aF 0:=fun _ => rfl
   have q3:a6 K 3 = some 0:=by rw [← hK]; rfl
   have q4:a6 K 4 = some 0:=by rw [← hK]; rfl
   have q5:a6 K 5 = some 0:=by rw [← hK]; rfl
   have q6:a6 K 6 = some 0:=by rw [← hK]; rfl
   unfold cF
   rw [fB]
   conv => lhs; arg 2; rw [← hK]
   simp only [List.map_cons,bW,aU,bM,gI,eF,hrf,hnc,fY,q3,q4,q5,q6,Nat.not_lt_zero,if_false,if_true]
  subst hK
  rw [YZ hh hids hr,hpk,hcm]
  have hmp:aE (aI ord) (tidy m s) = aE (BV d.length) (tidy m s):=by
   apply jQ
   rw [hids]
   intro i hi
   simp only [List.mem_cons,List.not_mem_nil,or_false] at hi
   rcases hi with rfl | rfl
   ·rw [p3,aBk]
   ·rw [pe2,YY rfl]
  have hz2:aU 0 (O.box [.d y1,.d y2] :: .box [.d x0,.sl 3 0 0 0,.sl 4 0 0 0] :: .box [.d x1,.sl 5 0 0 k,.sl 6 0 0 z] :: .arr [] 0 0 :: .arr [] 0 0 :: .vec (aC 7 d ++ aF 0) 1 0 :: .arr cs 1 0 :: aH d) (aE (aI ord) (tidy m s)) = aE (aI ord) (tidy m s):=by
   exact jL (EC (by simp [z0O,z0As,z0A,xR,uA,uB,CK])) _ (wD _ hz)
  rw [hz2,hmp]
 ·rfl
def x4 (n i:Nat):Option Nat:=if i = 0 then some 0 else if i = 1 then some 1 else if i = 2 then some 2 else none
theorem pJ {n:Nat}:x4 n 1 = some (1):=by unfold x4; repeat (first | rfl | rw [if_pos rfl] | rw [if_neg (by omega)])
theorem pZ {n:Nat}:x4 n 2 = some (2):=by unfold x4; repeat (first | rfl | rw [if_pos rfl] | rw [if_neg (by omega)])
theorem BQ {m:List Bool} {s:List A} {y1 y2 x0 x1:D} {k z:Nat} {cs:List D} {d:List (List Int)} (hl:d.length ≤ 4294967296):gc 1 m s (.box [.d y1,.d y2] :: .box [.d x0,.sl 3 0 0 0,.sl 4 0 0 0] :: .box [.d x1,.sl 5 0 0 k,.sl 6 0 0 z] :: .arr [] 0 0 :: .arr [] 0 0 :: .vec (aC 7 d ++ aF 0) 1 0 :: .arr cs 1 0 :: aH d) = match box (tidy m s) with
  | .mk s1 => if idsL s1 = [1,2] ∧ z0As s1 = true then (aE (x4 d.length) s1,.box [.d y1,.d y2] :: .box [.d x0,.sl 3 0 0 0,.sl 4 0 0 0] :: .box [.d x1,.sl 5 0 0 k,.sl 6 0 0 z] :: .arr [] 0 0 :: .arr [] 0 0 :: .vec (aC 7 d ++ aF 0) 1 0 :: .arr cs 1 0 :: aH d) else gcO 1 m s (.box [.d y1,.d y2] :: .box [.d x0,.sl 3 0 0 0,.sl 4 0 0 0] :: .box [.d x1,.sl 5 0 0 k,.sl 6 0 0 z] :: .arr [] 0 0 :: .arr [] 0 0 :: .vec (aC 7 d ++ aF 0) 1 0 :: .arr cs 1 0 :: aH d)
  | .no => ([],[]):=by
 simp only [box]
 split
 ·rename_i hc
  obtain ⟨hb,hz⟩:=hc
  have hids:idsL (tidy m s) = [1,2]:=by exact hb
  obtain ⟨h,hh⟩:∃ h:H,O.box [.d y1,.d y2] :: .box [.d x0,.sl 3 0 0 0,.sl 4 0 0 0] :: .box [.d x1,.sl 5 0 0 k,.sl 6 0 0 z] :: .arr [] 0 0 :: .arr [] 0 0 :: .vec (aC 7 d ++ aF 0) 1 0 :: .arr cs 1 0 :: aH d = h:=⟨_,rfl⟩
  conv => lhs; rw [hh]
  have g0:h[0]? = some (.box [.d y1,.d y2]):=by rw [← hh]; rfl
  have g1:h[1]? = some (.box [.d x0,.sl 3 0 0 0,.sl 4 0 0 0]):=by rw [← hh]; rfl
  have g2:h[2]? = some (.box [.d x1,.sl 5 0 0 k,.sl 6 0 0 z]):=by rw [← hh]; rfl
  have g3:h[3]? = some (.arr [] 0 0):=by rw [← hh]; rfl
  have g4:h[4]? = some (.arr [] 0 0):=by rw [← hh]; rfl
  have g5:h[5]? = some (.vec (aC 7 d ++ aF 0) 1 0):=by rw [← hh]; rfl
  have g6:h[6]? = some (.arr cs 1 0):=by rw [← hh]; rfl
  have hD:h.drop 7 = aH d ++ []:=by rw [← hh]; exact (List.append_nil _).symm
  have gr:=hJ 7 hD
  have k0:kids h (0) = []:=by simp [kids,g0,idsL,idsA]
  have k1:kids h (1) = [3,4]:=by simp [kids,g1,idsL,idsA]
  have k2:kids h (2) = [5,6]:=by simp [kids,g2,idsL,idsA]
  have k3:kids h (3) = []:=bN g3
  have k4:kids h (4) = []:=bN g4
  have k5:kids h (5) = List.range' 7 d.length:=by simp [kids,g5,bL,bU,dB]
  have leaf:=iG gr
  have hr:aD (aG + 1) h [0,1,2] [] = [0,1,2,3,4,5] ++ ([6] ++ (List.range' 7 d.length ++ [])):=fO (by simp [k0,k1,k2,k3,k4,k5]) (by intro q hq; simp only [List.length_cons,List.length_nil] at hq; have:q = 0 ∨ q = 1 ∨ q = 2 ∨ q = 3 ∨ q = 4 ∨ q = 5:=(by omega); rcases this with rfl | rfl | rfl | rfl | rfl | rfl <;> simp [k0,k1,k2,k3,k4]) leaf (by intro i hi; simp at hi; subst hi; exact ⟨_,_,_,by assumption⟩) (by intro i hi; simp at hi; rcases hi with rfl | rfl | rfl | rfl | rfl | rfl <;> exact ⟨_,by assumption,by simp⟩) (by simp <;> omega) (by intro i hi; simp at hi; omega) (by simp only [aG,List.length_cons,List.length_nil]; omega)
  generalize hord:[0,1,2,3,4,5] ++ ([6] ++ (List.range' 7 d.length ++ [])) = ord at hr
  have hA:ord = ([0,1,2,3,4,5] ++ [6]) ++ (List.range' 7 d.length ++ []):=by rw [← hord,List.append_assoc]
  have pk:∀ i j,ord[j]? = some i → aI ord i = some j:=fun i j h1 => dI (by rw [← hr]; exact bT (aG + 1) h _ [] (by simp)) h1
  have p0:=pk (0) 0 (by rw [← hord]; rfl)
  have p1:=pk (1) 1 (by rw [← hord]; rfl)
  have p2:=pk (2) 2 (by rw [← hord]; rfl)
  have p3:=pk (3) 3 (by rw [← hord]; rfl)
  have p4:=pk (4) 4 (by rw [← hord]; rfl)
  have p5:=pk (5) 5 (by rw [← hord]; rfl)
  have p6:=pk (6) 6 (by rw [← hord]; rfl)
  have pr:=iE (C:=7) pk hA rfl
  obtain ⟨K,hK⟩:∃ K:H,O.box [.d y1,.d y2] :: .box [.d x0,.sl 3 0 0 0,.sl 4 0 0 0] :: .box [.d x1,.sl 5 0 0 k,.sl 6 0 0 z] :: .arr [] 0 0 :: .arr [] 0 0 :: .vec (aC 7 d ++ aF 0) 1 0 :: .arr cs 1 0 :: aH d = K:=⟨_,rfl⟩
  have hni:∀ f,aE f (aF 0) = aF 0:=fun _ => rfl
  have hpk:pack h ord = K:=by
   have hrf:aE (aI ord) (aC 7 d) = aC 7 d:=eM (c:=0) pr
   rw [jX hA gr,← hK]
   simp only [List.cons_append,List.nil_append,List.map_cons,List.map_nil,List.getD_eq_getElem?_getD,g0,g1,g2,g3,g4,g5,g6,Option.getD_some,mapO,aE,mapA,cR,hrf,hni,p3,p4,p5,p6,List.append_nil]
  have hKD:K.drop 7 = aH d ++ []:=by rw [← hK]; exact (List.append_nil _).symm
  have hgr:=mE hKD
  have hcm:cF 0 K = .box [.d y1,.d y2] :: .box [.d x0,.sl 3 0 0 0,.sl 4 0 0 0] :: .box [.d x1,.sl 5 0 0 k,.sl 6 0 0 z] :: .arr [] 0 0 :: .arr [] 0 0 :: .vec (aC 7 d ++ aF 0) 1 0 :: .arr cs 1 0 :: aH d:=by
   have hrf:aU 0 K (aC 7 d) = aC 7 d:=eY hgr
   have hnc:∀ h:H,aU 0 h (aF 0) = aF 0:=fun _ => rfl
   have q3:a6 K 3 = some 0:=by rw [← hK]; rfl
   have q4:a6 K 4 = some 0:=by rw [← hK]; rfl
   have q5:a6 K 5 = some 0:=by rw [← hK]; rfl
   have q6:a6 K 6 = some 0:=by rw [← hK]; rfl
   unfold cF
   rw [fB]
   conv => lhs; arg 2; rw [← hK]
   simp only [List.map_cons,bW,aU,bM,gI,eF,hrf,hnc,fY,q3,q4,q5,q6,Nat.not_lt_zero,if_false,if_true]
  subst hK
  rw [YZ hh hids hr,hpk,hcm]
  have hmp:aE (aI ord) (tidy m s) = aE (x4 d.length) (tidy m s):=by
   apply jQ
   rw [hids]
   intro i hi
   simp only [List.mem_cons,List.not_mem_nil,or_false] at hi
   rcases hi with rfl | rfl
   ·rw [p1,pJ]
   ·rw [p2,pZ]
  have hz2:aU 0 (O.box [.d y1,.d y2] :: .box [.d x0,.sl 3 0 0 0,.sl 4 0 0 0] :: .box [.d x1,.sl 5 0 0 k,.sl 6 0 0 z] :: .arr [] 0 0 :: .arr [] 0 0 :: .vec (aC 7 d ++ aF 0) 1 0 :: .arr cs 1 0 :: aH d) (aE (aI ord) (tidy m s)) = aE (aI ord) (tidy m s):=by
   exact jL (EC (by simp [z0O,z0As,z0A,xR,uA,uB,CK])) _ (wD _ hz)
  rw [hz2,hmp]
 ·rfl
theorem aMT {m:List Bool} {s:List A} {y1 y2 x0 x1:D} {k z:Nat} {r:List Int} {cs:List D} {d:List (List Int)} {p:H} (hl:d.length ≤ 4294967296):gc 1 m s (.box [.d y1,.d y2] :: .box [.d x0,.sl 4 0 0 0,.sl 5 0 0 0] :: .box [.d x1,.sl 6 1 0 k,.sl 7 1 0 z] :: .arr (ints r) 1 0 :: .arr [] 0 0 :: .arr [] 0 0 :: .vec (aC 8 d ++ [.sl 3 0 0 r.length]) 1 1 :: .arr cs 1 1 :: (aH d ++ p)) = match box (tidy m s) with
  | .mk s1 => if idsL s1 = [0,1,2] then (aU 0 (.box [.d y1,.d y2] :: .box [.d x0,.sl 3 0 0 0,.sl 4 0 0 0] :: .box [.d x1,.sl 5 1 0 k,.sl 6 1 0 z] :: .arr [] 0 0 :: .arr [] 0 0 :: .vec (aC 7 d ++ [.sl (d.length + 7) 0 0 r.length]) 1 1 :: .arr cs 1 1 :: (aH d ++ [.arr (ints r) 1 0])) (s1),.box [.d y1,.d y2] :: .box [.d x0,.sl 3 0 0 0,.sl 4 0 0 0] :: .box [.d x1,.sl 5 0 0 k,.sl 6 0 0 z] :: .arr [] 0 0 :: .arr [] 0 0 :: .vec (aC 7 d ++ [.sl (d.length + 7) 0 0 r.length]) 1 0 :: .arr cs 1 0 :: (aH d ++ [.arr (ints r) 1 0])) else gcO 1 m s (.box [.d y1,.d y2] :: .box [.d x0,.sl 4 0 0 0,.sl 5 0 0 0] :: .box [.d x1,.sl 6 1 0 k,.sl 7 1 0 z] :: .arr (ints r) 1 0 :: .arr [] 0 0 :: .arr [] 0 0 :: .vec (aC 8 d ++ [.sl 3 0 0 r.length]) 1 1 :: .arr cs 1 1 :: (aH d ++ p))
  | .no => ([],[]):=by
 simp only [box]
 split
 ·rename_i hc
  have hb:=hc
  have hids:idsL (tidy m s) = [0,1,2]:=by exact hb
  obtain ⟨h,hh⟩:∃ h:H,O.box [.d y1,.d y2] :: .box [.d x0,.sl 4 0 0 0,.sl 5 0 0 0] :: .box [.d x1,.sl 6 1 0 k,.sl 7 1 0 z] :: .arr (ints r) 1 0 :: .arr [] 0 0 :: .arr [] 0 0 :: .vec (aC 8 d ++ [.sl 3 0 0 r.length]) 1 1 :: .arr cs 1 1 :: (aH d ++ p) = h:=⟨_,rfl⟩
  conv => lhs; rw [hh]
  have g0:h[0]? = some (.box [.d y1,.d y2]):=by rw [← hh]; rfl
  have g1:h[1]? = some (.box [.d x0,.sl 4 0 0 0,.sl 5 0 0 0]):=by rw [← hh]; rfl
  have g2:h[2]? = some (.box [.d x1,.sl 6 1 0 k,.sl 7 1 0 z]):=by rw [← hh]; rfl
  have g3:h[3]? = some (.arr (ints r) 1 0):=by rw [← hh]; rfl
  have g4:h[4]? = some (.arr [] 0 0):=by rw [← hh]; rfl
  have g5:h[5]? = some (.arr [] 0 0):=by rw [← hh]; rfl
  have g6:h[6]? = some (.vec (aC 8 d ++ [.sl 3 0 0 r.length]) 1 1):=by rw [← hh]; rfl
  have g7:h[7]? = some (.arr cs 1 1):=by rw [← hh]; rfl
  have hD:h.drop 8 = aH d ++ p:=by rw [← hh]; rfl
  have gr:=hJ 8 hD
  have k0:kids h (0) = []:=by simp [kids,g0,idsL,idsA]
  have k1:kids h (1) = [4,5]:=by simp [kids,g1,idsL,idsA]
  have k2:kids h (2) = [6,7]:=by simp [kids,g2,idsL,idsA]
  have k4:kids h (4) = []:=bN g4
  have k5:kids h (5) = []:=bN g5
  have k6:kids h (6) = List.range' 8 d.length ++ [3]:=by simp [kids,g6,bL,bU,idsL,idsA]
  have leaf:=iG gr
  have hr:aD aG h [0,1,2] [] = [0,1,2,4,5,6] ++ ([7] ++ (List.range' 8 d.length ++ [3])):=fO (by simp [k0,k1,k2,k4,k5,k6]) (by intro q hq; simp only [List.length_cons,List.length_nil] at hq; have:q = 0 ∨ q = 1 ∨ q = 2 ∨ q = 3 ∨ q = 4 ∨ q = 5:=(by omega); rcases this with rfl | rfl | rfl | rfl | rfl | rfl <;> simp [k0,k1,k2,k4,k5]) leaf (by intro i hi; simp at hi; rcases hi with rfl | rfl <;> exact ⟨_,_,_,by assumption⟩) (by intro i hi; simp at hi; rcases hi with rfl | rfl | rfl | rfl | rfl | rfl <;> exact ⟨_,by assumption,by simp⟩) (by simp <;> omega) (by intro i hi; simp at hi; omega) (by simp only [aG,List.length_cons,List.length_nil]; omega)
  generalize hord:[0,1,2,4,5,6] ++ ([7] ++ (List.range' 8 d.length ++ [3])) = ord at hr
  have hA:ord = ([0,1,2,4,5,6] ++ [7]) ++ (List.range' 8 d.length ++ [3]):=by rw [← hord,List.append_assoc]
  have pk:∀ i j,ord[j]? = some i → aI ord i = some j:=fun i j h1 => dI (by rw [← hr]; exact bT aG h _ [] (by simp)) h1
  have p0:=pk (0) 0 (by rw [← hord]; rfl)
  have p1:=pk (1) 1 (by rw [← hord]; rfl)
  have p2:=pk (2) 2 (by rw [← hord]; rfl)
  have p4:=pk (4) 3 (by rw [← hord]; rfl)
  have p5:=pk (5) 4 (by rw [← hord]; rfl)
  have p6:=pk (6) 5 (by rw [← hord]; rfl)
  have p7:=pk (7) 6 (by rw [← hord]; rfl)
  have pr:=iE (C:=7) pk hA rfl
  have p3:=O5 (C:=7) pk hA rfl 0 (i:=3) (j:=d.length + 7) rfl (by omega)
  obtain ⟨K,hK⟩:∃ K:H,O.box [.d y1,.d y2] :: .box [.d x0,.sl 3 0 0 0,.sl 4 0 0 0] :: .box [.d x1,.sl 5 1 0 k,.sl 6 1 0 z] :: .arr [] 0 0 :: .arr [] 0 0 :: .vec (aC 7 d ++ [.sl (d.length + 7) 0 0 r.length]) 1 1 :: .arr cs 1 1 :: (aH d ++ [.arr (ints r) 1 0]) = K:=⟨_,rfl⟩
  have hni:∀ f,aE f (aF 0) = aF 0:=fun _ => rfl
  have hpk:pack h ord = K:=by
   have hrf:aE (aI ord) (aC 8 d) = aC 7 d:=eM (c:=0) pr
   rw [jX hA gr,← hK]
   simp only [List.cons_append,List.nil_append,List.map_cons,List.map_nil,List.getD_eq_getElem?_getD,g0,g1,g2,g4,g5,g6,g7,g3,Option.getD_some,mapO,aE,mapA,cR,hrf,p4,p5,p6,p7,p3]
  have hKD:K.drop 7 = aH d ++ [.arr (ints r) 1 0]:=by rw [← hK]; rfl
  have hgr:=mE hKD
  have hge0:a6 K (d.length + 7) = some 0:=by simp only [a6,uF 7 0 hKD rfl (j:=d.length + 7) (by omega)]
  have hcm:cF 0 K = .box [.d y1,.d y2] :: .box [.d x0,.sl 3 0 0 0,.sl 4 0 0 0] :: .box [.d x1,.sl 5 0 0 k,.sl 6 0 0 z] :: .arr [] 0 0 :: .arr [] 0 0 :: .vec (aC 7 d ++ [.sl (d.length + 7) 0 0 r.length]) 1 0 :: .arr cs 1 0 :: (aH d ++ [.arr (ints r) 1 0]):=by
   have hrf:aU 0 K (aC 7 d) = aC 7 d:=eY hgr
   have hnc:∀ h:H,aU 0 h (aF 0) = aF 0:=fun _ => rfl
   have q3:a6 K 3 = some 0:=by rw [← hK]; rfl
   have q4:a6 K 4 = some 0:=by rw [← hK]; rfl
   have q5:a6 K 5 = some 1:=by rw [← hK]; rfl
   have q6:a6 K 6 = some 1:=by rw [← hK]; rfl
   unfold cF
   rw [fB]
   conv => lhs; arg 2; rw [← hK]
   simp only [List.map_cons,List.map_append,List.map_nil,bW,aU,bM,gI,eF,hrf,fY,q3,q4,q5,q6,hge0,Nat.not_lt_zero,if_false,if_true]
  subst hK
  rw [OQ hh hids,J1 (ord:=ord) (by rw [hids]; exact hr),hpk,hcm]
  have hmp:aE (aI ord) (tidy m s) = tidy m s:=by
   apply fA
   rw [hids]
   intro i hi
   simp only [List.mem_cons,List.not_mem_nil,or_false] at hi
   rcases hi with rfl | rfl | rfl
   ·exact p0
   ·exact p1
   ·exact p2
  rw [hmp]
 ·rfl
theorem aMk {m:List Bool} {s:List A} {y1 y2 x0 x1:D} {k z:Nat} {cs:List D} {d:List (List Int)} (hl:d.length ≤ 4294967296):gc 1 m s (.box [.d y1,.d y2] :: .box [.d x0,.sl 3 0 0 0,.sl 4 0 0 0] :: .box [.d x1,.sl 5 0 0 k,.sl 6 0 0 z] :: .arr [] 0 0 :: .arr [] 0 0 :: .vec (aC 7 d ++ aF 0) 1 0 :: .arr cs 1 0 :: aH d) = match box (tidy m s) with
  | .mk s1 => if idsL s1 = [0,1,2] then (aU 0 (.box [.d y1,.d y2] :: .box [.d x0,.sl 3 0 0 0,.sl 4 0 0 0] :: .box [.d x1,.sl 5 0 0 k,.sl 6 0 0 z] :: .arr [] 0 0 :: .arr [] 0 0 :: .vec (aC 7 d ++ aF 0) 1 0 :: .arr cs 1 0 :: aH d) (s1),.box [.d y1,.d y2] :: .box [.d x0,.sl 3 0 0 0,.sl 4 0 0 0] :: .box [.d x1,.sl 5 0 0 k,.sl 6 0 0 z] :: .arr [] 0 0 :: .arr [] 0 0 :: .vec (aC 7 d ++ aF 0) 1 0 :: .arr cs 1 0 :: aH d) else gcO 1 m s (.box [.d y1,.d y2] :: .box [.d x0,.sl 3 0 0 0,.sl 4 0 0 0] :: .box [.d x1,.sl 5 0 0 k,.sl 6 0 0 z] :: .arr [] 0 0 :: .arr [] 0 0 :: .vec (aC 7 d ++ aF 0) 1 0 :: .arr cs 1 0 :: aH d)
  | .no => ([],[]):=by
 simp only [box]
 split
 ·rename_i hc
  have hb:=hc
  have hids:idsL (tidy m s) = [0,1,2]:=by exact hb
  obtain ⟨h,hh⟩:∃ h:H,O.box [.d y1,.d y2] :: .box [.d x0,.sl 3 0 0 0,.sl 4 0 0 0] :: .box [.d x1,.sl 5 0 0 k,.sl 6 0 0 z] :: .arr [] 0 0 :: .arr [] 0 0 :: .vec (aC 7 d ++ aF 0) 1 0 :: .arr cs 1 0 :: aH d = h:=⟨_,rfl⟩
  conv => lhs; rw [hh]
  have g0:h[0]? = some (.box [.d y1,.d y2]):=by rw [← hh]; rfl
  have g1:h[1]? = some (.box [.d x0,.sl 3 0 0 0,.sl 4 0 0 0]):=by rw [← hh]; rfl
  have g2:h[2]? = some (.box [.d x1,.sl 5 0 0 k,.sl 6 0 0 z]):=by rw [← hh]; rfl
  have g3:h[3]? = some (.arr [] 0 0):=by rw [← hh]; rfl
  have g4:h[4]? = some (.arr [] 0 0):=by rw [← hh]; rfl
  have g5:h[5]? = some (.vec (aC 7 d ++ aF 0) 1 0):=by rw [← hh]; rfl
  have g6:h[6]? = some (.arr cs 1 0):=by rw [← hh]; rfl
  have hD:h.drop 7 = aH d ++ []:=by rw [← hh]; exact (List.append_nil _).symm
  have gr:=hJ 7 hD
  have k0:kids h (0) = []:=by simp [kids,g0,idsL,idsA]
  have k1:kids h (1) = [3,4]:=by simp [kids,g1,idsL,idsA]
  have k2:kids h (2) = [5,6]:=by simp [kids,g2,idsL,idsA]
  have k3:kids h (3) = []:=bN g3
  have k4:kids h (4) = []:=bN g4
  have k5:kids h (5) = List.range' 7 d.length:=by simp [kids,g5,bL,bU,dB]
  have leaf:=iG gr
  have hr:aD aG h [0,1,2] [] = [0,1,2,3,4,5] ++ ([6] ++ (List.range' 7 d.length ++ [])):=fO (by simp [k0,k1,k2,k3,k4,k5]) (by intro q hq; simp only [List.length_cons,List.length_nil] at hq; have:q = 0 ∨ q = 1 ∨ q = 2 ∨ q = 3 ∨ q = 4 ∨ q = 5:=(by omega); rcases this with rfl | rfl | rfl | rfl | rfl | rfl <;> simp [k0,k1,k2,k3,k4]) leaf (by intro i hi; simp at hi; subst hi; exact ⟨_,_,_,by assumption⟩) (by intro i hi; simp at hi; rcases hi with rfl | rfl | rfl | rfl | rfl | rfl <;> exact ⟨_,by assumption,by simp⟩) (by simp <;> omega) (by intro i hi; simp at hi; omega) (by simp only [aG,List.length_cons,List.length_nil]; omega)
  generalize hord:[0,1,2,3,4,5] ++ ([6] ++ (List.range' 7 d.length ++ [])) = ord at hr
  have hA:ord = ([0,1,2,3,4,5] ++ [6]) ++ (List.range' 7 d.length ++ []):=by rw [← hord,List.append_assoc]
  have pk:∀ i j,ord[j]? = some i → aI ord i = some j:=fun i j h1 => dI (by rw [← hr]; exact bT aG h _ [] (by simp)) h1
  have p0:=pk (0) 0 (by rw [← hord]; rfl)
  have p1:=pk (1) 1 (by rw [← hord]; rfl)
  have p2:=pk (2) 2 (by rw [← hord]; rfl)
  have p3:=pk (3) 3 (by rw [← hord]; rfl)
  have p4:=pk (4) 4 (by rw [← hord]; rfl)
  have p5:=pk (5) 5 (by rw [← hord]; rfl)
  have p6:=pk (6) 6 (by rw [← hord]; rfl)
  have pr:=iE (C:=7) pk hA rfl
  obtain ⟨K,hK⟩:∃ K:H,O.box [.d y1,.d y2] :: .box [.d x0,.sl 3 0 0 0,.sl 4 0 0 0] :: .box [.d x1,.sl 5 0 0 k,.sl 6 0 0 z] :: .arr [] 0 0 :: .arr [] 0 0 :: .vec (aC 7 d ++ aF 0) 1 0 :: .arr cs 1 0 :: aH d = K:=⟨_,rfl⟩
  have hni:∀ f,aE f (aF 0) = aF 0:=fun _ => rfl
  have hpk:pack h ord = K:=by
   have hrf:aE (aI ord) (aC 7 d) = aC 7 d:=eM (c:=0) pr
   rw [jX hA gr,← hK]
   simp only [List.cons_append,List.nil_append,List.map_cons,List.map_nil,List.getD_eq_getElem?_getD,g0,g1,g2,g3,g4,g5,g6,Option.getD_some,mapO,aE,mapA,cR,hrf,hni,p3,p4,p5,p6,List.append_nil]
  have hKD:K.drop 7 = aH d ++ []:=by rw [← hK]; exact (List.append_nil _).symm
  have hgr:=mE hKD
  have hcm:cF 0 K = .box [.d y1,.d y2] :: .box [.d x0,.sl 3 0 0 0,.sl 4 0 0 0] :: .box [.d x1,.sl 5 0 0 k,.sl 6 0 0 z] :: .arr [] 0 0 :: .arr [] 0 0 :: .vec (aC 7 d ++ aF 0) 1 0 :: .arr cs 1 0 :: aH d:=by
   have hrf:aU 0 K (aC 7 d) = aC 7 d:=eY hgr
   have hnc:∀ h:H,aU 0 h (aF 0) = aF 0:=fun _ => rfl
   have q3:a6 K 3 = some 0:=by rw [← hK]; rfl
   have q4:a6 K 4 = some 0:=by rw [← hK]; rfl
   have q5:a6 K 5 = some 0:=by rw [← hK]; rfl
   have q6:a6 K 6 = some 0:=by rw [← hK]; rfl
   unfold cF
   rw [fB]
   conv => lhs; arg 2; rw [← hK]
   simp only [List.map_cons,bW,aU,bM,gI,eF,hrf,hnc,fY,q3,q4,q5,q6,Nat.not_lt_zero,if_false,if_true]
  subst hK
  rw [OQ hh hids,J1 (ord:=ord) (by rw [hids]; exact hr),hpk,hcm]
  have hmp:aE (aI ord) (tidy m s) = tidy m s:=by
   apply fA
   rw [hids]
   intro i hi
   simp only [List.mem_cons,List.not_mem_nil,or_false] at hi
   rcases hi with rfl | rfl | rfl
   ·exact p0
   ·exact p1
   ·exact p2
  rw [hmp]
 ·rfl
theorem aMQ {m:List Bool} {s:List A} {y1 y2 x0 x1:D} {k z g:Nat} {cr cs:List D} {d:List (List Int)} {p:H} (hl:d.length ≤ 4294967296):gc 1 m s (.box [.d y1,.d y2] :: .box [.d x0,.sl 4 0 0 0,.sl 5 0 0 0] :: .box [.d x1,.sl 6 0 0 k,.sl 7 0 0 z] :: .arr cr 1 g :: .arr [] 0 0 :: .arr [] 0 0 :: .vec (aC 8 d ++ aF 0) 1 0 :: .arr cs 1 0 :: (aH d ++ p)) = match box (tidy m s) with
  | .mk s1 => if idsL s1 = [0,1,2,3] then (aU 0 (.box [.d y1,.d y2] :: .box [.d x0,.sl 4 0 0 0,.sl 5 0 0 0] :: .box [.d x1,.sl 6 0 0 k,.sl 7 0 0 z] :: .arr cr 1 g :: .arr [] 0 0 :: .arr [] 0 0 :: .vec (aC 8 d ++ aF 0) 1 0 :: .arr cs 1 0 :: aH d) (s1),.box [.d y1,.d y2] :: .box [.d x0,.sl 4 0 0 0,.sl 5 0 0 0] :: .box [.d x1,.sl 6 0 0 k,.sl 7 0 0 z] :: .arr cr 1 0 :: .arr [] 0 0 :: .arr [] 0 0 :: .vec (aC 8 d ++ aF 0) 1 0 :: .arr cs 1 0 :: aH d) else gcO 1 m s (.box [.d y1,.d y2] :: .box [.d x0,.sl 4 0 0 0,.sl 5 0 0 0] :: .box [.d x1,.sl 6 0 0 k,.sl 7 0 0 z] :: .arr cr 1 g :: .arr [] 0 0 :: .arr [] 0 0 :: .vec (aC 8 d ++ aF 0) 1 0 :: .arr cs 1 0 :: (aH d ++ p))
  | .no => ([],[]):=by
 simp only [box]
 split
 ·rename_i hc
  have hb:=hc
  have hids:idsL (tidy m s) = [0,1,2,3]:=by exact hb
  obtain ⟨h,hh⟩:∃ h:H,O.box [.d y1,.d y2] :: .box [.d x0,.sl 4 0 0 0,.sl 5 0 0 0] :: .box [.d x1,.sl 6 0 0 k,.sl 7 0 0 z] :: .arr cr 1 g :: .arr [] 0 0 :: .arr [] 0 0 :: .vec (aC 8 d ++ aF 0) 1 0 :: .arr cs 1 0 :: (aH d ++ p) = h:=⟨_,rfl⟩
  conv => lhs; rw [hh]
  have g0:h[0]? = some (.box [.d y1,.d y2]):=by rw [← hh]; rfl
  have g1:h[1]? = some (.box [.d x0,.sl 4 0 0 0,.sl 5 0 0 0]):=by rw [← hh]; rfl
  have g2:h[2]? = some (.box [.d x1,.sl 6 0 0 k,.sl 7 0 0 z]):=by rw [← hh]; rfl
  have g3:h[3]? = some (.arr cr 1 g):=by rw [← hh]; rfl
  have g4:h[4]? = some (.arr [] 0 0):=by rw [← hh]; rfl
  have g5:h[5]? = some (.arr [] 0 0):=by rw [← hh]; rfl
  have g6:h[6]? = some (.vec (aC 8 d ++ aF 0) 1 0):=by rw [← hh]; rfl
  have g7:h[7]? = some (.arr cs 1 0):=by rw [← hh]; rfl
  have hD:h.drop 8 = aH d ++ p:=by rw [← hh]; rfl
  have gr:=hJ 8 hD
  have k0:kids h (0) = []:=by simp [kids,g0,idsL,idsA]
  have k1:kids h (1) = [4,5]:=by simp [kids,g1,idsL,idsA]
  have k2:kids h (2) = [6,7]:=by simp [kids,g2,idsL,idsA]
  have k3:kids h (3) = []:=bN g3
  have k4:kids h (4) = []:=bN g4
  have k5:kids h (5) = []:=bN g5
  have k6:kids h (6) = List.range' 8 d.length:=by simp [kids,g6,bL,bU,dB]
  have leaf:=iG gr
  have hr:aD aG h [0,1,2,3] [] = [0,1,2,3,4,5,6] ++ ([7] ++ (List.range' 8 d.length ++ [])):=fO (by simp [k0,k1,k2,k3,k4,k5,k6]) (by intro q hq; simp only [List.length_cons,List.length_nil] at hq; have:q = 0 ∨ q = 1 ∨ q = 2 ∨ q = 3 ∨ q = 4 ∨ q = 5 ∨ q = 6:=(by omega); rcases this with rfl | rfl | rfl | rfl | rfl | rfl | rfl <;> simp [k0,k1,k2,k3,k4,k5]) leaf (by intro i hi; simp at hi; subst hi; exact ⟨_,_,_,by assumption⟩) (by intro i hi; simp at hi; rcases hi with rfl | rfl | rfl | rfl | rfl | rfl | rfl <;> exact ⟨_,by assumption,by simp⟩) (by simp <;> omega) (by intro i hi; simp at hi; omega) (by simp only [aG,List.length_cons,List.length_nil]; omega)
  generalize hord:[0,1,2,3,4,5,6] ++ ([7] ++ (List.range' 8 d.length ++ [])) = ord at hr
  have hA:ord = ([0,1,2,3,4,5,6] ++ [7]) ++ (List.range' 8 d.length ++ []):=by rw [← hord,List.append_assoc]
  have pk:∀ i j,ord[j]? = some i → aI ord i = some j:=fun i j h1 => dI (by rw [← hr]; exact bT aG h _ [] (by simp)) h1
  have p0:=pk (0) 0 (by rw [← hord]; rfl)
  have p1:=pk (1) 1 (by rw [← hord]; rfl)
  have p2:=pk (2) 2 (by rw [← hord]; rfl)
  have p3:=pk (3) 3 (by rw [← hord]; rfl)
  have p4:=pk (4) 4 (by rw [← hord]; rfl)
  have p5:=pk (5) 5 (by rw [← hord]; rfl)
  have p6:=pk (6) 6 (by rw [← hord]; rfl)
  have p7:=pk (7) 7 (by rw [← hord]; rfl)
  have pr:=iE (C:=8) pk hA rfl
  obtain ⟨K,hK⟩:∃ K:H,O.box [.d y1,.d y2] :: .box [.d x0,.sl 4 0 0 0,.sl 5 0 0 0] :: .box [.d x1,.sl 6 0 0 k,.sl 7 0 0 z] :: .arr cr 1 g :: .arr [] 0 0 :: .arr [] 0 0 :: .vec (aC 8 d ++ aF 0) 1 0 :: .arr cs 1 0 :: aH d = K:=⟨_,rfl⟩
  have hni:∀ f,aE f (aF 0) = aF 0:=fun _ => rfl
  have hpk:pack h ord = K:=by
   have hrf:aE (aI ord) (aC 8 d) = aC 8 d:=eM (c:=0) pr
   rw [jX hA gr,← hK]
   simp only [List.cons_append,List.nil_append,List.map_cons,List.map_nil,List.getD_eq_getElem?_getD,g0,g1,g2,g3,g4,g5,g6,g7,Option.getD_some,mapO,aE,mapA,cR,hrf,hni,p4,p5,p6,p7,List.append_nil]
  have hKD:K.drop 8 = aH d ++ []:=by rw [← hK]; exact (List.append_nil _).symm
  have hgr:=mE hKD
  have hcm:cF 0 K = .box [.d y1,.d y2] :: .box [.d x0,.sl 4 0 0 0,.sl 5 0 0 0] :: .box [.d x1,.sl 6 0 0 k,.sl 7 0 0 z] :: .arr cr 1 0 :: .arr [] 0 0 :: .arr [] 0 0 :: .vec (aC 8 d ++ aF 0) 1 0 :: .arr cs 1 0 :: aH d:=by
   have hrf:aU 0 K (aC 8 d) = aC 8 d:=eY hgr
   have hnc:∀ h:H,aU 0 h (aF 0) = aF 0:=fun _ => rfl
   have q3:a6 K 3 = some g:=by rw [← hK]; rfl
   have q4:a6 K 4 = some 0:=by rw [← hK]; rfl
   have q5:a6 K 5 = some 0:=by rw [← hK]; rfl
   have q6:a6 K 6 = some 0:=by rw [← hK]; rfl
   have q7:a6 K 7 = some 0:=by rw [← hK]; rfl
   unfold cF
   rw [fB]
   conv => lhs; arg 2; rw [← hK]
   simp only [List.map_cons,bW,aU,bM,gI,eF,hrf,hnc,fY,q4,q5,q6,q7,Nat.not_lt_zero,if_false,if_true]
  subst hK
  rw [OQ hh hids,J1 (ord:=ord) (by rw [hids]; exact hr),hpk,hcm]
  have hmp:aE (aI ord) (tidy m s) = tidy m s:=by
   apply fA
   rw [hids]
   intro i hi
   simp only [List.mem_cons,List.not_mem_nil,or_false] at hi
   rcases hi with rfl | rfl | rfl | rfl
   ·exact p0
   ·exact p1
   ·exact p2
   ·exact p3
  rw [hmp]
 ·rfl
theorem aKz {m:List Bool} {s:List A} {y1 y2 x0 x1:D} {k z g:Nat} {cr cs:List D} {d:List (List Int)} (hl:d.length ≤ 4294967296):gc 1 m s (.box [.d y1,.d y2] :: .box [.d x0,.sl 4 0 0 0,.sl 5 0 0 0] :: .box [.d x1,.sl 6 0 0 k,.sl 7 0 0 z] :: .arr cr 1 g :: .arr [] 0 0 :: .arr [] 0 0 :: .vec (aC 8 d ++ aF 0) 1 0 :: .arr cs 1 0 :: aH d) = match box (tidy m s) with
  | .mk s1 => if idsL s1 = [0,1,2,3] then (aU 0 (.box [.d y1,.d y2] :: .box [.d x0,.sl 4 0 0 0,.sl 5 0 0 0] :: .box [.d x1,.sl 6 0 0 k,.sl 7 0 0 z] :: .arr cr 1 g :: .arr [] 0 0 :: .arr [] 0 0 :: .vec (aC 8 d ++ aF 0) 1 0 :: .arr cs 1 0 :: aH d) (s1),.box [.d y1,.d y2] :: .box [.d x0,.sl 4 0 0 0,.sl 5 0 0 0] :: .box [.d x1,.sl 6 0 0 k,.sl 7 0 0 z] :: .arr cr 1 0 :: .arr [] 0 0 :: .arr [] 0 0 :: .vec (aC 8 d ++ aF 0) 1 0 :: .arr cs 1 0 :: aH d) else gcO 1 m s (.box [.d y1,.d y2] :: .box [.d x0,.sl 4 0 0 0,.sl 5 0 0 0] :: .box [.d x1,.sl 6 0 0 k,.sl 7 0 0 z] :: .arr cr 1 g :: .arr [] 0 0 :: .arr [] 0 0 :: .vec (aC 8 d ++ aF 0) 1 0 :: .arr cs 1 0 :: aH d)
  | .no => ([],[]):=by
 simp only [box]
 split
 ·rename_i hc
  have hb:=hc
  have hids:idsL (tidy m s) = [0,1,2,3]:=by exact hb
  obtain ⟨h,hh⟩:∃ h:H,O.box [.d y1,.d y2] :: .box [.d x0,.sl 4 0 0 0,.sl 5 0 0 0] :: .box [.d x1,.sl 6 0 0 k,.sl 7 0 0 z] :: .arr cr 1 g :: .arr [] 0 0 :: .arr [] 0 0 :: .vec (aC 8 d ++ aF 0) 1 0 :: .arr cs 1 0 :: aH d = h:=⟨_,rfl⟩
  conv => lhs; rw [hh]
  have g0:h[0]? = some (.box [.d y1,.d y2]):=by rw [← hh]; rfl
  have g1:h[1]? = some (.box [.d x0,.sl 4 0 0 0,.sl 5 0 0 0]):=by rw [← hh]; rfl
  have g2:h[2]? = some (.box [.d x1,.sl 6 0 0 k,.sl 7 0 0 z]):=by rw [← hh]; rfl
  have g3:h[3]? = some (.arr cr 1 g):=by rw [← hh]; rfl
  have g4:h[4]? = some (.arr [] 0 0):=by rw [← hh]; rfl
  have g5:h[5]? = some (.arr [] 0 0):=by rw [← hh]; rfl
  have g6:h[6]? = some (.vec (aC 8 d ++ aF 0) 1 0):=by rw [← hh]; rfl
  have g7:h[7]? = some (.arr cs 1 0):=by rw [← hh]; rfl
  have hD:h.drop 8 = aH d ++ []:=by rw [← hh]; exact (List.append_nil _).symm
  have gr:=hJ 8 hD
  have k0:kids h (0) = []:=by simp [kids,g0,idsL,idsA]
  have k1:kids h (1) = [4,5]:=by simp [kids,g1,idsL,idsA]
  have k2:kids h (2) = [6,7]:=by simp [kids,g2,idsL,idsA]
  have k3:kids h (3) = []:=bN g3
  have k4:kids h (4) = []:=bN g4
  have k5:kids h (5) = []:=bN g5
  have k6:kids h (6) = List.range' 8 d.length:=by simp [kids,g6,bL,bU,dB]
  have leaf:=iG gr
  have hr:aD aG h [0,1,2,3] [] = [0,1,2,3,4,5,6] ++ ([7] ++ (List.range' 8 d.length ++ [])):=fO (by simp [k0,k1,k2,k3,k4,k5,k6]) (by intro q hq; simp only [List.length_cons,List.length_nil] at hq; have:q = 0 ∨ q = 1 ∨ q = 2 ∨ q = 3 ∨ q = 4 ∨ q = 5 ∨ q = 6:=(by omega); rcases this with rfl | rfl | rfl | rfl | rfl | rfl | rfl <;> simp [k0,k1,k2,k3,k4,k5]) leaf (by intro i hi; simp at hi; subst hi; exact ⟨_,_,_,by assumption⟩) (by intro i hi; simp at hi; rcases hi with rfl | rfl | rfl | rfl | rfl | rfl | rfl <;> exact ⟨_,by assumption,by simp⟩) (by simp <;> omega) (by intro i hi; simp at hi; omega) (by simp only [aG,List.length_cons,List.length_nil]; omega)
  generalize hord:[0,1,2,3,4,5,6] ++ ([7] ++ (List.range' 8 d.length ++ [])) = ord at hr
  have hA:ord = ([0,1,2,3,4,5,6] ++ [7]) ++ (List.range' 8 d.length ++ []):=by rw [← hord,List.append_assoc]
  have pk:∀ i j,ord[j]? = some i → aI ord i = some j:=fun i j h1 => dI (by rw [← hr]; exact bT aG h _ [] (by simp)) h1
  have p0:=pk (0) 0 (by rw [← hord]; rfl)
  have p1:=pk (1) 1 (by rw [← hord]; rfl)
  have p2:=pk (2) 2 (by rw [← hord]; rfl)
  have p3:=pk (3) 3 (by rw [← hord]; rfl)
  have p4:=pk (4) 4 (by rw [← hord]; rfl)
  have p5:=pk (5) 5 (by rw [← hord]; rfl)
  have p6:=pk (6) 6 (by rw [← hord]; rfl)
  have p7:=pk (7) 7 (by rw [← hord]; rfl)
  have pr:=iE (C:=8) pk hA rfl
  obtain ⟨K,hK⟩:∃ K:H,O.box [.d y1,.d y2] :: .box [.d x0,.sl 4 0 0 0,.sl 5 0 0 0] :: .box [.d x1,.sl 6 0 0 k,.sl 7 0 0 z] :: .arr cr 1 g :: .arr [] 0 0 :: .arr [] 0 0 :: .vec (aC 8 d ++ aF 0) 1 0 :: .arr cs 1 0 :: aH d = K:=⟨_,rfl⟩
  have hni:∀ f,aE f (aF 0) = aF 0:=fun _ => rfl
  have hpk:pack h ord = K:=by
   have hrf:aE (aI ord) (aC 8 d) = aC 8 d:=eM (c:=0) pr
   rw [jX hA gr,← hK]
   simp only [List.cons_append,List.nil_append,List.map_cons,List.map_nil,List.getD_eq_getElem?_getD,g0,g1,g2,g3,g4,g5,g6,g7,Option.getD_some,mapO,aE,mapA,cR,hrf,hni,p4,p5,p6,p7,List.append_nil]
  have hKD:K.drop 8 = aH d ++ []:=by rw [← hK]; exact (List.append_nil _).symm
  have hgr:=mE hKD
  have hcm:cF 0 K = .box [.d y1,.d y2] :: .box [.d x0,.sl 4 0 0 0,.sl 5 0 0 0] :: .box [.d x1,.sl 6 0 0 k,.sl 7 0 0 z] :: .arr cr 1 0 :: .arr [] 0 0 :: .arr [] 0 0 :: .vec (aC 8 d ++ aF 0) 1 0 :: .arr cs 1 0 :: aH d:=by
   have hrf:aU 0 K (aC 8 d) = aC 8 d:=eY hgr
   have hnc:∀ h:H,aU 0 h (aF 0) = aF 0:=fun _ => rfl
   have q3:a6 K 3 = some g:=by rw [← hK]; rfl
   have q4:a6 K 4 = some 0:=by rw [← hK]; rfl
   have q5:a6 K 5 = some 0:=by rw [← hK]; rfl
   have q6:a6 K 6 = some 0:=by rw [← hK]; rfl
   have q7:a6 K 7 = some 0:=by rw [← hK]; rfl
   unfold cF
   rw [fB]
   conv => lhs; arg 2; rw [← hK]
   simp only [List.map_cons,bW,aU,bM,gI,eF,hrf,hnc,fY,q4,q5,q6,q7,Nat.not_lt_zero,if_false,if_true]
  subst hK
  rw [OQ hh hids,J1 (ord:=ord) (by rw [hids]; exact hr),hpk,hcm]
  have hmp:aE (aI ord) (tidy m s) = tidy m s:=by
   apply fA
   rw [hids]
   intro i hi
   simp only [List.mem_cons,List.not_mem_nil,or_false] at hi
   rcases hi with rfl | rfl | rfl | rfl
   ·exact p0
   ·exact p1
   ·exact p2
   ·exact p3
  rw [hmp]
 ·rfl
def FA (n:Nat) (ids:List Nat):Bool:=decide (ids = [0,1,2,n + 7])
theorem aEK {n:Nat} {ke0:Nat} (he0:ke0 = n + 7):FA n [0,1,2,ke0] = true:=by subst he0; simp [FA]
def iJ (n i:Nat):Option Nat:=if i = 0 then some 0 else if i = 1 then some 1 else if i = 2 then some 2 else if i = n + 7 then some 3 else none
theorem OV {n:Nat}:iJ n 0 = some (0):=by unfold iJ; repeat (first | rfl | rw [if_pos rfl] | rw [if_neg (by omega)])
theorem P5 {n:Nat}:iJ n 1 = some (1):=by unfold iJ; repeat (first | rfl | rw [if_pos rfl] | rw [if_neg (by omega)])
theorem P4 {n:Nat}:iJ n 2 = some (2):=by unfold iJ; repeat (first | rfl | rw [if_pos rfl] | rw [if_neg (by omega)])
theorem KZ {n k:Nat} (h:k = n + 7):iJ n k = some (3):=by subst h; unfold iJ; repeat (first | rfl | rw [if_pos rfl] | rw [if_neg (by omega)])
theorem aM2 {m:List Bool} {s:List A} {y1 y2 x0 x1:D} {k z:Nat} {cs:List D} {d:List (List Int)} {p:H} (hl:d.length ≤ 4294967296):gc 1 m s (.box [.d y1,.d y2] :: .box [.d x0,.sl 3 0 0 0,.sl 4 0 0 0] :: .box [.d x1,.sl 5 0 0 k,.sl 6 0 0 z] :: .arr [] 0 0 :: .arr [] 0 0 :: .vec (aC 7 d ++ aF 0) 1 0 :: .arr cs 1 0 :: (aH d ++ .arr [] 1 0 :: p)) = match box (tidy m s) with
  | .mk s1 => if FA d.length (idsL s1) = true then (aU 0 (.box [.d y1,.d y2] :: .box [.d x0,.sl 4 0 0 0,.sl 5 0 0 0] :: .box [.d x1,.sl 6 0 0 k,.sl 7 0 0 z] :: .arr [] 1 0 :: .arr [] 0 0 :: .arr [] 0 0 :: .vec (aC 8 d ++ aF 0) 1 0 :: .arr cs 1 0 :: aH d) (aE (iJ d.length) s1),.box [.d y1,.d y2] :: .box [.d x0,.sl 4 0 0 0,.sl 5 0 0 0] :: .box [.d x1,.sl 6 0 0 k,.sl 7 0 0 z] :: .arr [] 1 0 :: .arr [] 0 0 :: .arr [] 0 0 :: .vec (aC 8 d ++ aF 0) 1 0 :: .arr cs 1 0 :: aH d) else gcO 1 m s (.box [.d y1,.d y2] :: .box [.d x0,.sl 3 0 0 0,.sl 4 0 0 0] :: .box [.d x1,.sl 5 0 0 k,.sl 6 0 0 z] :: .arr [] 0 0 :: .arr [] 0 0 :: .vec (aC 7 d ++ aF 0) 1 0 :: .arr cs 1 0 :: (aH d ++ .arr [] 1 0 :: p))
  | .no => ([],[]):=by
 simp only [box]
 split
 ·rename_i hc
  have hb:=hc
  have hids:idsL (tidy m s) = [0,1,2,d.length + 7]:=by simpa [FA] using hb
  obtain ⟨h,hh⟩:∃ h:H,O.box [.d y1,.d y2] :: .box [.d x0,.sl 3 0 0 0,.sl 4 0 0 0] :: .box [.d x1,.sl 5 0 0 k,.sl 6 0 0 z] :: .arr [] 0 0 :: .arr [] 0 0 :: .vec (aC 7 d ++ aF 0) 1 0 :: .arr cs 1 0 :: (aH d ++ .arr [] 1 0 :: p) = h:=⟨_,rfl⟩
  conv => lhs; rw [hh]
  have g0:h[0]? = some (.box [.d y1,.d y2]):=by rw [← hh]; rfl
  have g1:h[1]? = some (.box [.d x0,.sl 3 0 0 0,.sl 4 0 0 0]):=by rw [← hh]; rfl
  have g2:h[2]? = some (.box [.d x1,.sl 5 0 0 k,.sl 6 0 0 z]):=by rw [← hh]; rfl
  have g3:h[3]? = some (.arr [] 0 0):=by rw [← hh]; rfl
  have g4:h[4]? = some (.arr [] 0 0):=by rw [← hh]; rfl
  have g5:h[5]? = some (.vec (aC 7 d ++ aF 0) 1 0):=by rw [← hh]; rfl
  have g6:h[6]? = some (.arr cs 1 0):=by rw [← hh]; rfl
  have hD:h.drop 7 = aH d ++ (.arr [] 1 0 :: p):=by rw [← hh]; rfl
  have gr:=hJ 7 hD
  have ge0:h[d.length + 7]? = some (.arr [] 1 0):=uF 7 0 hD rfl (by omega)
  have k0:kids h (0) = []:=by simp [kids,g0,idsL,idsA]
  have k1:kids h (1) = [3,4]:=by simp [kids,g1,idsL,idsA]
  have k2:kids h (2) = [5,6]:=by simp [kids,g2,idsL,idsA]
  have ke0:kids h (d.length + 7) = []:=bN ge0
  have k3:kids h (3) = []:=bN g3
  have k4:kids h (4) = []:=bN g4
  have k5:kids h (5) = List.range' 7 d.length:=by simp [kids,g5,bL,bU,dB]
  have leaf:=iG gr
  have hr:aD aG h [0,1,2,d.length + 7] [] = [0,1,2,d.length + 7,3,4,5] ++ ([6] ++ (List.range' 7 d.length ++ [])):=fO (by simp [k0,k1,k2,ke0,k3,k4,k5]) (by intro q hq; simp only [List.length_cons,List.length_nil] at hq; have:q = 0 ∨ q = 1 ∨ q = 2 ∨ q = 3 ∨ q = 4 ∨ q = 5 ∨ q = 6:=(by omega); rcases this with rfl | rfl | rfl | rfl | rfl | rfl | rfl <;> simp [k0,k1,k2,ke0,k3,k4]) leaf (by intro i hi; simp at hi; subst hi; exact ⟨_,_,_,by assumption⟩) (by intro i hi; simp at hi; rcases hi with rfl | rfl | rfl | rfl | rfl | rfl | rfl <;> exact ⟨_,by assumption,by simp⟩) (by simp <;> omega) (by intro i hi; simp at hi; omega) (by simp only [aG,List.length_cons,List.length_nil]; omega)
  generalize hord:[0,1,2,d.length + 7,3,4,5] ++ ([6] ++ (List.range' 7 d.length ++ [])) = ord at hr
  have hA:ord = ([0,1,2,d.length + 7,3,4,5] ++ [6]) ++ (List.range' 7 d.length ++ []):=by rw [← hord,List.append_assoc]
  have pk:∀ i j,ord[j]? = some i → aI ord i = some j:=fun i j h1 => dI (by rw [← hr]; exact bT aG h _ [] (by simp)) h1
  have p0:=pk (0) 0 (by rw [← hord]; rfl)
  have p1:=pk (1) 1 (by rw [← hord]; rfl)
  have p2:=pk (2) 2 (by rw [← hord]; rfl)
  have pe0:=pk (d.length + 7) 3 (by rw [← hord]; rfl)
  have p3:=pk (3) 4 (by rw [← hord]; rfl)
  have p4:=pk (4) 5 (by rw [← hord]; rfl)
  have p5:=pk (5) 6 (by rw [← hord]; rfl)
  have p6:=pk (6) 7 (by rw [← hord]; rfl)
  have pr:=iE (C:=8) pk hA rfl
  obtain ⟨K,hK⟩:∃ K:H,O.box [.d y1,.d y2] :: .box [.d x0,.sl 4 0 0 0,.sl 5 0 0 0] :: .box [.d x1,.sl 6 0 0 k,.sl 7 0 0 z] :: .arr [] 1 0 :: .arr [] 0 0 :: .arr [] 0 0 :: .vec (aC 8 d ++ aF 0) 1 0 :: .arr cs 1 0 :: aH d = K:=⟨_,rfl⟩
  have hni:∀ f,aE f (aF 0) = aF 0:=fun _ => rfl
  have hpk:pack h ord = K:=by
   have hrf:aE (aI ord) (aC 7 d) = aC 8 d:=eM (c:=0) pr
   rw [jX hA gr,← hK]
   simp only [List.cons_append,List.nil_append,List.map_cons,List.map_nil,List.getD_eq_getElem?_getD,g0,g1,g2,ge0,g3,g4,g5,g6,Option.getD_some,mapO,aE,mapA,cR,hrf,hni,p3,p4,p5,p6,List.append_nil]
  have hKD:K.drop 8 = aH d ++ []:=by rw [← hK]; exact (List.append_nil _).symm
  have hgr:=mE hKD
  have hcm:cF 0 K = .box [.d y1,.d y2] :: .box [.d x0,.sl 4 0 0 0,.sl 5 0 0 0] :: .box [.d x1,.sl 6 0 0 k,.sl 7 0 0 z] :: .arr [] 1 0 :: .arr [] 0 0 :: .arr [] 0 0 :: .vec (aC 8 d ++ aF 0) 1 0 :: .arr cs 1 0 :: aH d:=by
   have hrf:aU 0 K (aC 8 d) = aC 8 d:=eY hgr
   have hnc:∀ h:H,aU 0 h (aF 0) = aF 0:=fun _ => rfl
   have q3:a6 K 3 = some 0:=by rw [← hK]; rfl
   have q4:a6 K 4 = some 0:=by rw [← hK]; rfl
   have q5:a6 K 5 = some 0:=by rw [← hK]; rfl
   have q6:a6 K 6 = some 0:=by rw [← hK]; rfl
   have q7:a6 K 7 = some 0:=by rw [← hK]; rfl
   unfold cF
   rw [fB]
   conv => lhs; arg 2; rw [← hK]
   simp only [List.map_cons,bW,aU,bM,gI,eF,hrf,hnc,fY,q4,q5,q6,q7,Nat.not_lt_zero,if_false,if_true]
  subst hK
  rw [OQ hh hids,J1 (ord:=ord) (by rw [hids]; exact hr),hpk,hcm]
  have hmp:aE (aI ord) (tidy m s) = aE (iJ d.length) (tidy m s):=by
   apply jQ
   rw [hids]
   intro i hi
   simp only [List.mem_cons,List.not_mem_nil,or_false] at hi
   rcases hi with rfl | rfl | rfl | rfl
   ·rw [p0,OV]
   ·rw [p1,P5]
   ·rw [p2,P4]
   ·rw [pe0,KZ rfl]
  rw [hmp]
 ·rfl
def t7 (n:Nat):List Nat:=[0,5,6] ++ (List.range' 7 n ++ [])
def BR (n i:Nat):Option Nat:=if i = 0 then some 0 else if i = 5 then some 1 else if i = 6 then some 2 else none
theorem aB2 {n:Nat}:BR n 5 = some (1):=by unfold BR; repeat (first | rfl | rw [if_pos rfl] | rw [if_neg (by omega)])
theorem aCb {n:Nat}:BR n 6 = some (2):=by unfold BR; repeat (first | rfl | rw [if_pos rfl] | rw [if_neg (by omega)])
theorem aKc {y1 y2:D} {x0 x1 o3 o4:O} {cs:List D} {d:List (List Int)} (hl:d.length ≤ 4294967296) {ids:List Nat}:dF 1 (.box [.d y1,.d y2] :: x0 :: x1 :: o3 :: o4 :: .vec (aC 7 d ++ aF 0) 1 0 :: .arr cs 1 0 :: aH d) ids = if ids = [5,6] then t7 d.length else aLJ 1 (.box [.d y1,.d y2] :: x0 :: x1 :: o3 :: o4 :: .vec (aC 7 d ++ aF 0) 1 0 :: .arr cs 1 0 :: aH d) ids:=by
 split
 ·rename_i hc
  subst hc
  rw [aEL]
  obtain ⟨h,hh⟩:∃ h:H,O.box [.d y1,.d y2] :: x0 :: x1 :: o3 :: o4 :: .vec (aC 7 d ++ aF 0) 1 0 :: .arr cs 1 0 :: aH d = h:=⟨_,rfl⟩
  conv => lhs; rw [hh]
  have g0:h[0]? = some (.box [.d y1,.d y2]):=by rw [← hh]; rfl
  have g5:h[5]? = some (.vec (aC 7 d ++ aF 0) 1 0):=by rw [← hh]; rfl
  have g6:h[6]? = some (.arr cs 1 0):=by rw [← hh]; rfl
  have hD:h.drop 7 = aH d ++ []:=by rw [← hh]; exact (List.append_nil _).symm
  have gr:=hJ 7 hD
  have k0:kids h (0) = []:=by simp [kids,g0,idsL,idsA]
  have k5:kids h (5) = List.range' 7 d.length:=by simp [kids,g5,bL,bU,dB]
  have leaf:=iG gr
  have hr:aD (aG + 1) h [0,5,6] [] = [0,5] ++ ([6] ++ (List.range' 7 d.length ++ [])):=fO (by simp [k0,k5]) (by intro q hq; simp only [List.length_cons,List.length_nil] at hq; have:q = 0 ∨ q = 1:=(by omega); rcases this with rfl | rfl <;> simp [k0]) leaf (by intro i hi; simp at hi; subst hi; exact ⟨_,_,_,by assumption⟩) (by intro i hi; simp at hi; rcases hi with rfl | rfl <;> exact ⟨_,by assumption,by simp⟩) (by simp <;> omega) (by intro i hi; simp at hi; omega) (by simp only [aG,List.length_cons,List.length_nil]; omega)
  generalize hord:[0,5] ++ ([6] ++ (List.range' 7 d.length ++ [])) = ord at hr
  rw [hr,← hord]
  rfl
 ·rfl
theorem aJD {y1 y2:D} {x0 x1 o3 o4:O} {cs:List D} {d:List (List Int)} (hl:d.length ≤ 4294967296) {s:List A}:trim 1 (.box [.d y1,.d y2] :: x0 :: x1 :: o3 :: o4 :: .vec (aC 7 d ++ aF 0) 1 0 :: .arr cs 1 0 :: aH d) (t7 d.length) s = if idsL s = [5,6] ∧ z0As s = true then (aE (BR d.length) s,.box [.d y1,.d y2] :: .vec (aC 3 d ++ aF 0) 1 0 :: .arr cs 1 0 :: aH d) else aLH 1 (.box [.d y1,.d y2] :: x0 :: x1 :: o3 :: o4 :: .vec (aC 7 d ++ aF 0) 1 0 :: .arr cs 1 0 :: aH d) (t7 d.length) s:=by
 split
 ·rename_i hc
  obtain ⟨hids,hz⟩:=hc
  rw [show t7 d.length = 0 :: (t7 d.length).tail from rfl,aAJ,show (0 :: (t7 d.length).tail) = t7 d.length from rfl]
  obtain ⟨h,hh⟩:∃ h:H,O.box [.d y1,.d y2] :: x0 :: x1 :: o3 :: o4 :: .vec (aC 7 d ++ aF 0) 1 0 :: .arr cs 1 0 :: aH d = h:=⟨_,rfl⟩
  conv => lhs; rw [hh]
  have g0:h[0]? = some (.box [.d y1,.d y2]):=by rw [← hh]; rfl
  have g5:h[5]? = some (.vec (aC 7 d ++ aF 0) 1 0):=by rw [← hh]; rfl
  have g6:h[6]? = some (.arr cs 1 0):=by rw [← hh]; rfl
  have hD:h.drop 7 = aH d ++ []:=by rw [← hh]; exact (List.append_nil _).symm
  have gr:=hJ 7 hD
  have k0:kids h (0) = []:=by simp [kids,g0,idsL,idsA]
  have k5:kids h (5) = List.range' 7 d.length:=by simp [kids,g5,bL,bU,dB]
  have leaf:=iG gr
  have hr:aD aG h [0,5,6] [] = [0,5] ++ ([6] ++ (List.range' 7 d.length ++ [])):=fO (by simp [k0,k5]) (by intro q hq; simp only [List.length_cons,List.length_nil] at hq; have:q = 0 ∨ q = 1:=(by omega); rcases this with rfl | rfl <;> simp [k0]) leaf (by intro i hi; simp at hi; subst hi; exact ⟨_,_,_,by assumption⟩) (by intro i hi; simp at hi; rcases hi with rfl | rfl <;> exact ⟨_,by assumption,by simp⟩) (by simp <;> omega) (by intro i hi; simp at hi; omega) (by simp only [aG,List.length_cons,List.length_nil]; omega)
  generalize hord:[0,5] ++ ([6] ++ (List.range' 7 d.length ++ [])) = ord at hr
  have hA:ord = ([0,5] ++ [6]) ++ (List.range' 7 d.length ++ []):=by rw [← hord,List.append_assoc]
  have pk:∀ i j,ord[j]? = some i → aI ord i = some j:=fun i j h1 => dI (by rw [← hr]; exact bT aG h _ [] (by simp)) h1
  have p0:=pk (0) 0 (by rw [← hord]; rfl)
  have p5:=pk (5) 1 (by rw [← hord]; rfl)
  have p6:=pk (6) 2 (by rw [← hord]; rfl)
  have pr:=iE (C:=3) pk hA rfl
  obtain ⟨K,hK⟩:∃ K:H,O.box [.d y1,.d y2] :: .vec (aC 3 d ++ aF 0) 1 0 :: .arr cs 1 0 :: aH d = K:=⟨_,rfl⟩
  have hni:∀ f,aE f (aF 0) = aF 0:=fun _ => rfl
  have hpk:pack h ord = K:=by
   have hrf:aE (aI ord) (aC 7 d) = aC 3 d:=eM (c:=0) pr
   rw [jX hA gr,← hK]
   simp only [List.cons_append,List.nil_append,List.map_cons,List.map_nil,List.getD_eq_getElem?_getD,g0,g5,g6,Option.getD_some,mapO,aE,mapA,cR,hrf,hni,List.append_nil]
  have hKD:K.drop 3 = aH d ++ []:=by rw [← hK]; exact (List.append_nil _).symm
  have hgr:=mE hKD
  have hcm:cF 0 K = .box [.d y1,.d y2] :: .vec (aC 3 d ++ aF 0) 1 0 :: .arr cs 1 0 :: aH d:=by
   have hrf:aU 0 K (aC 3 d) = aC 3 d:=eY hgr
   have hnc:∀ h:H,aU 0 h (aF 0) = aF 0:=fun _ => rfl
   have q1:a6 K 1 = some 0:=by rw [← hK]; rfl
   have q2:a6 K 2 = some 0:=by rw [← hK]; rfl
   unfold cF
   rw [fB]
   conv => lhs; arg 2; rw [← hK]
   simp only [List.map_cons,bW,aU,bM,eF,hrf,hnc,fY,Nat.not_lt_zero,if_false]
  subst hK
  have hoo:t7 d.length = ord:=by rw [← hord]; rfl
  unfold trim
  rw [hoo,hpk,hcm]
  have hz2:aU 0 (O.box [.d y1,.d y2] :: .vec (aC 3 d ++ aF 0) 1 0 :: .arr cs 1 0 :: aH d) (aE (aI ord) s) = aE (aI ord) s:=by
   exact jL (EC (by simp [z0O,z0As,z0A,xR,uA,uB,CK])) _ (wD _ hz)
  have hmp:aE (aI ord) s = aE (BR d.length) s:=by
   apply jQ
   rw [hids]
   intro i hi
   simp only [List.mem_cons,List.not_mem_nil,or_false] at hi
   rcases hi with rfl | rfl
   ·rw [p5,aB2]
   ·rw [p6,aCb]
  rw [hz2,hmp]
 ·rfl
theorem aNB {m:List Bool} {s:List A} {a1 a2 a3 x0 x1:D} {k z:Nat} {r:List Int} {cs:List D} {d:List (List Int)} {p:H} (hl:d.length ≤ 4294967296):gc 0 m s (.box [.d a1,.d a2,.d a3] :: .box [.d x0,.sl 3 0 0 0,.sl 4 0 0 0] :: .box [.d x1,.sl 5 1 0 k,.sl 6 0 0 z] :: .arr [] 0 0 :: .arr [] 0 0 :: .vec (aC 7 d ++ [.sl (d.length + 7) 1 0 r.length]) 1 1 :: .arr cs 1 0 :: (aH d ++ .arr (ints r) 1 1 :: p)) = match box (tidy m s) with
  | .mk s1 => if idsL s1 = [0,1,2] then (aU 0 (.box [.d a1,.d a2,.d a3] :: .box [.d x0,.sl 3 0 0 0,.sl 4 0 0 0] :: .box [.d x1,.sl 5 1 0 k,.sl 6 0 0 z] :: .arr [] 0 0 :: .arr [] 0 0 :: .vec (aC 7 d ++ [.sl (d.length + 7) 1 0 r.length]) 1 1 :: .arr cs 1 0 :: (aH d ++ [.arr (ints r) 1 1])) (s1),.box [.d a1,.d a2,.d a3] :: .box [.d x0,.sl 3 0 0 0,.sl 4 0 0 0] :: .box [.d x1,.sl 5 0 0 k,.sl 6 0 0 z] :: .arr [] 0 0 :: .arr [] 0 0 :: .vec (aC 7 d ++ [.sl (d.length + 7) 0 0 r.length]) 1 0 :: .arr cs 1 0 :: (aH d ++ [.arr (ints r) 1 0])) else gcO 0 m s (.box [.d a1,.d a2,.d a3] :: .box [.d x0,.sl 3 0 0 0,.sl 4 0 0 0] :: .box [.d x1,.sl 5 1 0 k,.sl 6 0 0 z] :: .arr [] 0 0 :: .arr [] 0 0 :: .vec (aC 7 d ++ [.sl (d.length + 7) 1 0 r.length]) 1 1 :: .arr cs 1 0 :: (aH d ++ .arr (ints r) 1 1 :: p))
  | .no => ([],[]):=by
 simp only [box]
 split
 ·rename_i hc
  have hb:=hc
  have hids:idsL (tidy m s) = [0,1,2]:=by exact hb
  obtain ⟨h,hh⟩:∃ h:H,O.box [.d a1,.d a2,.d a3] :: .box [.d x0,.sl 3 0 0 0,.sl 4 0 0 0] :: .box [.d x1,.sl 5 1 0 k,.sl 6 0 0 z] :: .arr [] 0 0 :: .arr [] 0 0 :: .vec (aC 7 d ++ [.sl (d.length + 7) 1 0 r.length]) 1 1 :: .arr cs 1 0 :: (aH d ++ .arr (ints r) 1 1 :: p) = h:=⟨_,rfl⟩
  conv => lhs; rw [hh]
  have g0:h[0]? = some (.box [.d a1,.d a2,.d a3]):=by rw [← hh]; rfl
  have g1:h[1]? = some (.box [.d x0,.sl 3 0 0 0,.sl 4 0 0 0]):=by rw [← hh]; rfl
  have g2:h[2]? = some (.box [.d x1,.sl 5 1 0 k,.sl 6 0 0 z]):=by rw [← hh]; rfl
  have g3:h[3]? = some (.arr [] 0 0):=by rw [← hh]; rfl
  have g4:h[4]? = some (.arr [] 0 0):=by rw [← hh]; rfl
  have g5:h[5]? = some (.vec (aC 7 d ++ [.sl (d.length + 7) 1 0 r.length]) 1 1):=by rw [← hh]; rfl
  have g6:h[6]? = some (.arr cs 1 0):=by rw [← hh]; rfl
  have hD:h.drop 7 = aH d ++ (.arr (ints r) 1 1 :: p):=by rw [← hh]; rfl
  have gr:=hJ 7 hD
  have ge0:h[d.length + 7]? = some (.arr (ints r) 1 1):=uF 7 0 hD rfl (by omega)
  have k0:kids h (0) = []:=by simp [kids,g0,idsL,idsA]
  have k1:kids h (1) = [3,4]:=by simp [kids,g1,idsL,idsA]
  have k2:kids h (2) = [5,6]:=by simp [kids,g2,idsL,idsA]
  have k3:kids h (3) = []:=bN g3
  have k4:kids h (4) = []:=bN g4
  have k5:kids h (5) = List.range' 7 d.length ++ [d.length + 7]:=by simp [kids,g5,bL,bU,idsL,idsA]
  have leaf:=iG gr
  have hr:aD aG h [0,1,2] [] = [0,1,2,3,4,5] ++ ([6] ++ (List.range' 7 d.length ++ [d.length + 7])):=fO (by simp [k0,k1,k2,k3,k4,k5]) (by intro q hq; simp only [List.length_cons,List.length_nil] at hq; have:q = 0 ∨ q = 1 ∨ q = 2 ∨ q = 3 ∨ q = 4 ∨ q = 5:=(by omega); rcases this with rfl | rfl | rfl | rfl | rfl | rfl <;> simp [k0,k1,k2,k3,k4]) leaf (by intro i hi; simp at hi; rcases hi with rfl | rfl <;> exact ⟨_,_,_,by assumption⟩) (by intro i hi; simp at hi; rcases hi with rfl | rfl | rfl | rfl | rfl | rfl <;> exact ⟨_,by assumption,by simp⟩) (by simp <;> omega) (by intro i hi; simp at hi; omega) (by simp only [aG,List.length_cons,List.length_nil]; omega)
  generalize hord:[0,1,2,3,4,5] ++ ([6] ++ (List.range' 7 d.length ++ [d.length + 7])) = ord at hr
  have hA:ord = ([0,1,2,3,4,5] ++ [6]) ++ (List.range' 7 d.length ++ [d.length + 7]):=by rw [← hord,List.append_assoc]
  have pk:∀ i j,ord[j]? = some i → aI ord i = some j:=fun i j h1 => dI (by rw [← hr]; exact bT aG h _ [] (by simp)) h1
  have p0:=pk (0) 0 (by rw [← hord]; rfl)
  have p1:=pk (1) 1 (by rw [← hord]; rfl)
  have p2:=pk (2) 2 (by rw [← hord]; rfl)
  have p3:=pk (3) 3 (by rw [← hord]; rfl)
  have p4:=pk (4) 4 (by rw [← hord]; rfl)
  have p5:=pk (5) 5 (by rw [← hord]; rfl)
  have p6:=pk (6) 6 (by rw [← hord]; rfl)
  have pr:=iE (C:=7) pk hA rfl
  have pe0:=O5 (C:=7) pk hA rfl 0 (i:=d.length + 7) (j:=d.length + 7) rfl (by omega)
  obtain ⟨K,hK⟩:∃ K:H,O.box [.d a1,.d a2,.d a3] :: .box [.d x0,.sl 3 0 0 0,.sl 4 0 0 0] :: .box [.d x1,.sl 5 1 0 k,.sl 6 0 0 z] :: .arr [] 0 0 :: .arr [] 0 0 :: .vec (aC 7 d ++ [.sl (d.length + 7) 1 0 r.length]) 1 1 :: .arr cs 1 0 :: (aH d ++ [.arr (ints r) 1 1]) = K:=⟨_,rfl⟩
  have hni:∀ f,aE f (aF 0) = aF 0:=fun _ => rfl
  have hpk:pack h ord = K:=by
   have hrf:aE (aI ord) (aC 7 d) = aC 7 d:=eM (c:=0) pr
   rw [jX hA gr,← hK]
   simp only [List.cons_append,List.nil_append,List.map_cons,List.map_nil,List.getD_eq_getElem?_getD,g0,g1,g2,g3,g4,g5,g6,ge0,Option.getD_some,mapO,aE,mapA,cR,hrf,p3,p4,p5,p6,pe0]
  have hKD:K.drop 7 = aH d ++ [.arr (ints r) 1 1]:=by rw [← hK]; rfl
  have hgr:=mE hKD
  have hge0:a6 K (d.length + 7) = some 1:=by simp only [a6,uF 7 0 hKD rfl (j:=d.length + 7) (by omega)]
  have hcm:cF 0 K = .box [.d a1,.d a2,.d a3] :: .box [.d x0,.sl 3 0 0 0,.sl 4 0 0 0] :: .box [.d x1,.sl 5 0 0 k,.sl 6 0 0 z] :: .arr [] 0 0 :: .arr [] 0 0 :: .vec (aC 7 d ++ [.sl (d.length + 7) 0 0 r.length]) 1 0 :: .arr cs 1 0 :: (aH d ++ [.arr (ints r) 1 0]):=by
   have hrf:aU 0 K (aC 7 d) = aC 7 d:=eY hgr
   have hnc:∀ h:H,aU 0 h (aF 0) = aF 0:=fun _ => rfl
   have q3:a6 K 3 = some 0:=by rw [← hK]; rfl
   have q4:a6 K 4 = some 0:=by rw [← hK]; rfl
   have q5:a6 K 5 = some 1:=by rw [← hK]; rfl
   have q6:a6 K 6 = some 0:=by rw [← hK]; rfl
   unfold cF
   rw [fB]
   conv => lhs; arg 2; rw [← hK]
   simp only [List.map_cons,List.map_append,List.map_nil,bW,aU,bM,gI,eF,hrf,fY,q3,q4,q5,q6,hge0,Nat.not_lt_zero,if_false,if_true]
  subst hK
  rw [J1 (ord:=ord) (by rw [hids]; exact hr),hpk,hcm]
  have hmp:aE (aI ord) (tidy m s) = tidy m s:=by
   apply fA
   rw [hids]
   intro i hi
   simp only [List.mem_cons,List.not_mem_nil,or_false] at hi
   rcases hi with rfl | rfl | rfl
   ·exact p0
   ·exact p1
   ·exact p2
  rw [hmp]
 ·rfl
theorem aNQ {m:List Bool} {s:List A} {a1 a2 a3 x0 x1:D} {k z:Nat} {cs:List D} {d:List (List Int)} (hl:d.length ≤ 4294967296):gc 0 m s (.box [.d a1,.d a2,.d a3] :: .box [.d x0,.sl 3 0 0 0,.sl 4 0 0 0] :: .box [.d x1,.sl 5 0 0 k,.sl 6 0 0 z] :: .arr [] 0 0 :: .arr [] 0 0 :: .vec (aC 7 d ++ aF 0) 1 0 :: .arr cs 1 0 :: aH d) = match box (tidy m s) with
  | .mk s1 => if idsL s1 = [0,1,2] then (aU 0 (.box [.d a1,.d a2,.d a3] :: .box [.d x0,.sl 3 0 0 0,.sl 4 0 0 0] :: .box [.d x1,.sl 5 0 0 k,.sl 6 0 0 z] :: .arr [] 0 0 :: .arr [] 0 0 :: .vec (aC 7 d ++ aF 0) 1 0 :: .arr cs 1 0 :: aH d) (s1),.box [.d a1,.d a2,.d a3] :: .box [.d x0,.sl 3 0 0 0,.sl 4 0 0 0] :: .box [.d x1,.sl 5 0 0 k,.sl 6 0 0 z] :: .arr [] 0 0 :: .arr [] 0 0 :: .vec (aC 7 d ++ aF 0) 1 0 :: .arr cs 1 0 :: aH d) else gcO 0 m s (.box [.d a1,.d a2,.d a3] :: .box [.d x0,.sl 3 0 0 0,.sl 4 0 0 0] :: .box [.d x1,.sl 5 0 0 k,.sl 6 0 0 z] :: .arr [] 0 0 :: .arr [] 0 0 :: .vec (aC 7 d ++ aF 0) 1 0 :: .arr cs 1 0 :: aH d)
  | .no => ([],[]):=by
 simp only [box]
 split
 ·rename_i hc
  have hb:=hc
  have hids:idsL (tidy m s) = [0,1,2]:=by exact hb
  obtain ⟨h,hh⟩:∃ h:H,O.box [.d a1,.d a2,.d a3] :: .box [.d x0,.sl 3 0 0 0,.sl 4 0 0 0] :: .box [.d x1,.sl 5 0 0 k,.sl 6 0 0 z] :: .arr [] 0 0 :: .arr [] 0 0 :: .vec (aC 7 d ++ aF 0) 1 0 :: .arr cs 1 0 :: aH d = h:=⟨_,rfl⟩
  conv => lhs; rw [hh]
  have g0:h[0]? = some (.box [.d a1,.d a2,.d a3]):=by rw [← hh]; rfl
  have g1:h[1]? = some (.box [.d x0,.sl 3 0 0 0,.sl 4 0 0 0]):=by rw [← hh]; rfl
  have g2:h[2]? = some (.box [.d x1,.sl 5 0 0 k,.sl 6 0 0 z]):=by rw [← hh]; rfl
  have g3:h[3]? = some (.arr [] 0 0):=by rw [← hh]; rfl
  have g4:h[4]? = some (.arr [] 0 0):=by rw [← hh]; rfl
  have g5:h[5]? = some (.vec (aC 7 d ++ aF 0) 1 0):=by rw [← hh]; rfl
  have g6:h[6]? = some (.arr cs 1 0):=by rw [← hh]; rfl
  have hD:h.drop 7 = aH d ++ []:=by rw [← hh]; exact (List.append_nil _).symm
  have gr:=hJ 7 hD
  have k0:kids h (0) = []:=by simp [kids,g0,idsL,idsA]
  have k1:kids h (1) = [3,4]:=by simp [kids,g1,idsL,idsA]
  have k2:kids h (2) = [5,6]:=by simp [kids,g2,idsL,idsA]
  have k3:kids h (3) = []:=bN g3
  have k4:kids h (4) = []:=bN g4
  have k5:kids h (5) = List.range' 7 d.length:=by simp [kids,g5,bL,bU,dB]
  have leaf:=iG gr
  have hr:aD aG h [0,1,2] [] = [0,1,2,3,4,5] ++ ([6] ++ (List.range' 7 d.length ++ [])):=fO (by simp [k0,k1,k2,k3,k4,k5]) (by intro q hq; simp only [List.length_cons,List.length_nil] at hq; have:q = 0 ∨ q = 1 ∨ q = 2 ∨ q = 3 ∨ q = 4 ∨ q = 5:=(by omega); rcases this with rfl | rfl | rfl | rfl | rfl | rfl <;> simp [k0,k1,k2,k3,k4]) leaf (by intro i hi; simp at hi; subst hi; exact ⟨_,_,_,by assumption⟩) (by intro i hi; simp at hi; rcases hi with rfl | rfl | rfl | rfl | rfl | rfl <;> exact ⟨_,by assumption,by simp⟩) (by simp <;> omega) (by intro i hi; simp at hi; omega) (by simp only [aG,List.length_cons,List.length_nil]; omega)
  generalize hord:[0,1,2,3,4,5] ++ ([6] ++ (List.range' 7 d.length ++ [])) = ord at hr
  have hA:ord = ([0,1,2,3,4,5] ++ [6]) ++ (List.range' 7 d.length ++ []):=by rw [← hord,List.append_assoc]
  have pk:∀ i j,ord[j]? = some i → aI ord i = some j:=fun i j h1 => dI (by rw [← hr]; exact bT aG h _ [] (by simp)) h1
  have p0:=pk (0) 0 (by rw [← hord]; rfl)
  have p1:=pk (1) 1 (by rw [← hord]; rfl)
  have p2:=pk (2) 2 (by rw [← hord]; rfl)
  have p3:=pk (3) 3 (by rw [← hord]; rfl)
  have p4:=pk (4) 4 (by rw [← hord]; rfl)
  have p5:=pk (5) 5 (by rw [← hord]; rfl)
  have p6:=pk (6) 6 (by rw [← hord]; rfl)
  have pr:=iE (C:=7) pk hA rfl
  obtain ⟨K,hK⟩:∃ K:H,O.box [.d a1,.d a2,.d a3] :: .box [.d x0,.sl 3 0 0 0,.sl 4 0 0 0] :: .box [.d x1,.sl 5 0 0 k,.sl 6 0 0 z] :: .arr [] 0 0 :: .arr [] 0 0 :: .vec (aC 7 d ++ aF 0) 1 0 :: .arr cs 1 0 :: aH d = K:=⟨_,rfl⟩
  have hni:∀ f,aE f (aF 0) = aF 0:=fun _ => rfl
  have hpk:pack h ord = K:=by
   have hrf:aE (aI ord) (aC 7 d) = aC 7 d:=eM (c:=0) pr
   rw [jX hA gr,← hK]
   simp only [List.cons_append,List.nil_append,List.map_cons,List.map_nil,List.getD_eq_getElem?_getD,g0,g1,g2,g3,g4,g5,g6,Option.getD_some,mapO,aE,mapA,cR,hrf,hni,p3,p4,p5,p6,List.append_nil]
  have hKD:K.drop 7 = aH d ++ []:=by rw [← hK]; exact (List.append_nil _).symm
  have hgr:=mE hKD
  have hcm:cF 0 K = .box [.d a1,.d a2,.d a3] :: .box [.d x0,.sl 3 0 0 0,.sl 4 0 0 0] :: .box [.d x1,.sl 5 0 0 k,.sl 6 0 0 z] :: .arr [] 0 0 :: .arr [] 0 0 :: .vec (aC 7 d ++ aF 0) 1 0 :: .arr cs 1 0 :: aH d:=by
   have hrf:aU 0 K (aC 7 d) = aC 7 d:=eY hgr
   have hnc:∀ h:H,aU 0 h (aF 0) = aF 0:=fun _ => rfl
   have q3:a6 K 3 = some 0:=by rw [← hK]; rfl
   have q4:a6 K 4 = some 0:=by rw [← hK]; rfl
   have q5:a6 K 5 = some 0:=by rw [← hK]; rfl
   have q6:a6 K 6 = some 0:=by rw [← hK]; rfl
   unfold cF
   rw [fB]
   conv => lhs; arg 2; rw [← hK]
   simp only [List.map_cons,bW,aU,bM,gI,eF,hrf,hnc,fY,q3,q4,q5,q6,Nat.not_lt_zero,if_false,if_true]
  subst hK
  rw [J1 (ord:=ord) (by rw [hids]; exact hr),hpk,hcm]
  have hmp:aE (aI ord) (tidy m s) = tidy m s:=by
   apply fA
   rw [hids]
   intro i hi
   simp only [List.mem_cons,List.not_mem_nil,or_false] at hi
   rcases hi with rfl | rfl | rfl
   ·exact p0
   ·exact p1
   ·exact p2
  rw [hmp]
 ·rfl
def QD (n:Nat):List Nat:=[5,6] ++ (List.range' 7 n ++ [])
def BX (n i:Nat):Option Nat:=if i = 5 then some 0 else if i = 6 then some 1 else none
theorem aBR {n:Nat}:BX n 5 = some (0):=by unfold BX; repeat (first | rfl | rw [if_pos rfl] | rw [if_neg (by omega)])
theorem aBB {n:Nat}:BX n 6 = some (1):=by unfold BX; repeat (first | rfl | rw [if_pos rfl] | rw [if_neg (by omega)])
theorem aLt {o0 x0 x1:O} {o3 o4:O} {cs:List D} {d:List (List Int)} (hl:d.length ≤ 4294967296) {ids:List Nat}:dF 0 (o0 :: x0 :: x1 :: o3 :: o4 :: .vec (aC 7 d ++ aF 0) 1 0 :: .arr cs 1 0 :: aH d) ids = if ids = [5,6] then QD d.length else aLJ 0 (o0 :: x0 :: x1 :: o3 :: o4 :: .vec (aC 7 d ++ aF 0) 1 0 :: .arr cs 1 0 :: aH d) ids:=by
 split
 ·rename_i hc
  subst hc
  obtain ⟨h,hh⟩:∃ h:H,o0 :: x0 :: x1 :: o3 :: o4 :: .vec (aC 7 d ++ aF 0) 1 0 :: .arr cs 1 0 :: aH d = h:=⟨_,rfl⟩
  conv => lhs; rw [hh]
  have g5:h[5]? = some (.vec (aC 7 d ++ aF 0) 1 0):=by rw [← hh]; rfl
  have g6:h[6]? = some (.arr cs 1 0):=by rw [← hh]; rfl
  have hD:h.drop 7 = aH d ++ []:=by rw [← hh]; exact (List.append_nil _).symm
  have gr:=hJ 7 hD
  have k5:kids h (5) = List.range' 7 d.length:=by simp [kids,g5,bL,bU,dB]
  have leaf:=iG gr
  have hr:aD aG h [5,6] [] = [5] ++ ([6] ++ (List.range' 7 d.length ++ [])):=fO (by simp [k5]) (by intro q hq; simp only [List.length_cons,List.length_nil] at hq; have:q = 0:=(by omega); rcases this with rfl <;> simp []) leaf (by intro i hi; simp at hi; subst hi; exact ⟨_,_,_,by assumption⟩) (by intro i hi; simp at hi; subst hi; exact ⟨_,by assumption,by simp⟩) (by simp <;> omega) (by intro i hi; simp at hi; omega) (by simp only [aG,List.length_cons,List.length_nil]; omega)
  generalize hord:[5] ++ ([6] ++ (List.range' 7 d.length ++ [])) = ord at hr
  rw [O1]
  unfold aG at hr
  rw [hr,← hord]
  rfl
 ·rfl
theorem aLs {o0 x0 x1:O} {o3 o4:O} {cs:List D} {d:List (List Int)} (hl:d.length ≤ 4294967296) {s:List A}:trim 0 (o0 :: x0 :: x1 :: o3 :: o4 :: .vec (aC 7 d ++ aF 0) 1 0 :: .arr cs 1 0 :: aH d) (QD d.length) s = if idsL s = [5,6] ∧ z0As s = true then (aE (BX d.length) s,.vec (aC 2 d ++ aF 0) 1 0 :: .arr cs 1 0 :: aH d) else aLH 0 (o0 :: x0 :: x1 :: o3 :: o4 :: .vec (aC 7 d ++ aF 0) 1 0 :: .arr cs 1 0 :: aH d) (QD d.length) s:=by
 split
 ·rename_i hc
  obtain ⟨hids,hz⟩:=hc
  obtain ⟨h,hh⟩:∃ h:H,o0 :: x0 :: x1 :: o3 :: o4 :: .vec (aC 7 d ++ aF 0) 1 0 :: .arr cs 1 0 :: aH d = h:=⟨_,rfl⟩
  conv => lhs; rw [hh]
  have g5:h[5]? = some (.vec (aC 7 d ++ aF 0) 1 0):=by rw [← hh]; rfl
  have g6:h[6]? = some (.arr cs 1 0):=by rw [← hh]; rfl
  have hD:h.drop 7 = aH d ++ []:=by rw [← hh]; exact (List.append_nil _).symm
  have gr:=hJ 7 hD
  have k5:kids h (5) = List.range' 7 d.length:=by simp [kids,g5,bL,bU,dB]
  have leaf:=iG gr
  have hr:aD aG h [5,6] [] = [5] ++ ([6] ++ (List.range' 7 d.length ++ [])):=fO (by simp [k5]) (by intro q hq; simp only [List.length_cons,List.length_nil] at hq; have:q = 0:=(by omega); rcases this with rfl <;> simp []) leaf (by intro i hi; simp at hi; subst hi; exact ⟨_,_,_,by assumption⟩) (by intro i hi; simp at hi; subst hi; exact ⟨_,by assumption,by simp⟩) (by simp <;> omega) (by intro i hi; simp at hi; omega) (by simp only [aG,List.length_cons,List.length_nil]; omega)
  generalize hord:[5] ++ ([6] ++ (List.range' 7 d.length ++ [])) = ord at hr
  have hA:ord = ([5] ++ [6]) ++ (List.range' 7 d.length ++ []):=by rw [← hord,List.append_assoc]
  have pk:∀ i j,ord[j]? = some i → aI ord i = some j:=fun i j h1 => dI (by rw [← hr]; exact bT aG h _ [] (by simp)) h1
  have p5:=pk (5) 0 (by rw [← hord]; rfl)
  have p6:=pk (6) 1 (by rw [← hord]; rfl)
  have pr:=iE (C:=2) pk hA rfl
  obtain ⟨K,hK⟩:∃ K:H,O.vec (aC 2 d ++ aF 0) 1 0 :: .arr cs 1 0 :: aH d = K:=⟨_,rfl⟩
  have hni:∀ f,aE f (aF 0) = aF 0:=fun _ => rfl
  have hpk:pack h ord = K:=by
   have hrf:aE (aI ord) (aC 7 d) = aC 2 d:=eM (c:=0) pr
   rw [jX hA gr,← hK]
   simp only [List.cons_append,List.nil_append,List.map_cons,List.map_nil,List.getD_eq_getElem?_getD,g5,g6,Option.getD_some,mapO,cR,hrf,hni,List.append_nil]
  have hKD:K.drop 2 = aH d ++ []:=by rw [← hK]; exact (List.append_nil _).symm
  have hgr:=mE hKD
  have hcm:cF 0 K = .vec (aC 2 d ++ aF 0) 1 0 :: .arr cs 1 0 :: aH d:=by
   have hrf:aU 0 K (aC 2 d) = aC 2 d:=eY hgr
   have hnc:∀ h:H,aU 0 h (aF 0) = aF 0:=fun _ => rfl
   have q0:a6 K 0 = some 0:=by rw [← hK]; rfl
   have q1:a6 K 1 = some 0:=by rw [← hK]; rfl
   unfold cF
   rw [fB]
   conv => lhs; arg 2; rw [← hK]
   simp only [List.map_cons,bW,eF,hrf,hnc,fY,Nat.not_lt_zero,if_false]
  subst hK
  have hoo:QD d.length = ord:=by rw [← hord]; rfl
  unfold trim
  rw [hoo,hpk,hcm]
  have hz2:aU 0 (O.vec (aC 2 d ++ aF 0) 1 0 :: .arr cs 1 0 :: aH d) (aE (aI ord) s) = aE (aI ord) s:=by
   exact jL (EC (by simp [z0O,xR,uA,uB,CK])) _ (wD _ hz)
  have hmp:aE (aI ord) s = aE (BX d.length) s:=by
   apply jQ
   rw [hids]
   intro i hi
   simp only [List.mem_cons,List.not_mem_nil,or_false] at hi
   rcases hi with rfl | rfl
   ·rw [p5,aBR]
   ·rw [p6,aBB]
  rw [hz2,hmp]
 ·rfl


section
section
variable {h:H} {a b c d:O}
theorem aKC:(h ++ [a,b,c])[h.length + 1 + 1]? = some c:=by
 rw [List.getElem?_append_right (by omega),show h.length + 1 + 1 - h.length = 2 by omega]
 rfl
theorem aK7:(h ++ [a,b,c]).set (h.length + 1 + 1) d = h ++ [a,b,d]:=by
 rw [List.set_append_right _ _ (by omega),show h.length + 1 + 1 - h.length = 2 by omega]
 rfl
end
theorem aKt {a b:Foot} (ha:a.ro = true) (hb:b.ro = true):jO a b = false:=by
 unfold jO
 rw [ha,hb]
 rfl
section
variable {L n:Nat} {h:H} {al:Int} {rs:List (List Int)} {ac:List Bool}
end
end
theorem A1 {f:Nat → Option Nat}:∀ (k:Nat) (cs:List A),(aE f cs).take k = aE f (cs.take k)
 | 0,cs => by simp [aE]
 | k + 1,[] => by simp [aE]
 | k + 1,c :: cs => by simp only [aE,List.take_succ_cons,A1 k cs]
theorem KL {f:Nat → Option Nat}:∀ (k:Nat) (cs:List A),(aE f cs).drop k = aE f (cs.drop k)
 | 0,cs => rfl
 | k + 1,[] => by simp [aE]
 | k + 1,c :: cs => by simp only [aE,List.drop_succ_cons,KL k cs]
theorem aGe {h:H} {ord ids:List Nat} {id k:Nat} {o:O} (hc:closed h ord ids = true) (hn:ord.Nodup) (hl:∀ i ∈ ord,i < h.length) (hk:aI ord id = some k) :
  bJ (fun (k:Nat) => ord[k]?) h ord ((pack h ord).set k o) = h.set id (mapO (fun (k:Nat) => ord[k]?) o):=by
 have hpl:(pack h ord).length = ord.length:=by simp [pack]
 have hid:=hl id (F0 hk)
 apply List.ext_getElem?
 intro i
 rw [yH _ ord h _ i hn hl (by simp [pack])]
 cases hp:aI ord i with
 | none =>
  have hne:id ≠ i:=fun e => by rw [e,hp] at hk; cases hk
  rw [List.getElem?_set_ne hne]
  simp only []
  split
  ·rfl
  ·rename_i hge
   rw [List.getElem?_eq_none (by simp [pack]),List.getElem?_eq_none (by omega)]
   rfl
 | some q =>
  simp only []
  by_cases hqk:q = k
  ·subst hqk
   have h1:=bC hp
   have h2:=bC hk
   rw [h1] at h2
   obtain rfl:i = id:=Option.some.inj h2
   rw [List.getElem?_set_self (by rw [hpl]; exact xU hp),List.getElem?_set_self hid]
   rfl
  ·have hne:id ≠ i:=fun e => by rw [e,hp] at hk; exact hqk (Option.some.inj hk)
   rw [List.getElem?_set_ne (fun e => hqk e.symm),List.getElem?_set_ne hne]
   have hm:=F0 hp
   obtain ⟨x,hx⟩:∃ x,h[i]? = some x:=⟨h[i]'(hl i hm),List.getElem?_eq_getElem _⟩
   rw [gX (bC hp) hx,hx,Option.map_some,PL hc hm hx]
theorem CJ {E:Env} {call:aW} {thaw:List Nat} {dst:Option Tmp} {op:Op} {h:H} {vs:List A} {a a2:A} {o o2:O} {id k:Nat} {ord:List Nat} (hord:aD aG h (idsL vs) [] = ord) (hc:closed h ord (idsL vs) = true) (hk:aI ord id = some k) (hro:iU E op vs = false)
  (hev:evOp E call thaw (pack h ord) (dW dst op) (aE (aI ord) vs) = some (a,(pack h ord).set k o)) (ha:mapA (fun (k:Nat) => ord[k]?) a = a2) (ho:mapO (fun (k:Nat) => ord[k]?) o = o2) :
  memD E call thaw dst op h vs = some (a2,h.set id o2,{ ids:=ord,ro:=false,wr:=wrOf E op vs ord }):=by
 have hn:ord.Nodup:=by rw [← hord]; exact bT aG h (idsL vs) [] (by simp)
 have hl:∀ i ∈ ord,i < h.length:=by rw [← hord]; exact jC aG h (idsL vs) [] (by simp)
 have hpl:((pack h ord).set k o).length = ord.length:=by simp [pack]
 unfold memD
 rw [hord]
 simp only [box,hev,hpl,Nat.le_refl,hc,and_self,if_true,hro,Bool.false_and,Bool.false_eq_true,if_false,aCu,Nat.sub_self]
 rw [aGe hc hn hl hk,ha,ho]
 simp
theorem O6 {E:Env} {call:aW} {thaw:List Nat} {dst:Option Tmp} {args:Array Operand} {t e:TypeId} {h:H} {id id2 g g2 len:Nat} {cs:List A} {c:A} (he:cZ E.P t = some e) (hce:E.P.cellsOf e = 1) (hel:eW E.P e = true)
  (h1:h[id]? = some (.vec cs 1 g)) (h2:h[id2]? = some (.vec [c] 1 g2)) (hlen:len ≤ cs.length) (hmax:len + 1 ≤ bK) (ok1:Okay h id) (ok2:Okay h id2) (hw:2 + wgt h ≤ 1099511627776) :
  memD E call thaw dst (.call ⟨.builtin .append,args,#[t,t]⟩) h [.sl id g 0 len,.sl id2 g2 0 1] = some (.sl id (g + 1) 0 (len + 1),h.set id (.vec (cs.take len ++ [c]) 1 (g + 1)),{ ids:=aD aG h [id,id2] [],ro:=false,wr:=[id] }):=by
 have hids:idsL [A.sl id g 0 len,A.sl id2 g2 0 1] = [id,id2]:=rfl
 obtain ⟨c1,c2,c3⟩:=M1 (h:=h) (ids:=[id,id2]) (by intro i hi; simp at hi; rcases hi with rfl | rfl; exact ok1; exact ok2) (by simpa using hw)
 obtain ⟨ord,hord⟩:∃ ord,aD aG h [id,id2] [] = ord:=⟨_,rfl⟩
 rw [hord] at c1 c2 c3
 obtain ⟨k,hk⟩:=bZ (c2 id (by simp))
 obtain ⟨k2,hk2⟩:=bZ (c2 id2 (by simp))
 have p1:=gX (h:=h) (bC hk) h1
 have p2:=gX (h:=h) (bC hk2) h2
 have kid:∀ i,i ∈ ord → ∀ q ∈ kids h i,∃ j,aI ord q = some j:=fun i hi q hq => bZ (c3 i hi q hq)
 have bk:∀ xs:List A,(∀ i ∈ idsL xs,i ∈ ord) → aE (fun (k:Nat) => ord[k]?) (aE (aI ord) xs) = xs:=by
  intro xs hx
  rw [jS (q:=fun i => (aI ord i).bind fun k => ord[k]?) (fun _ => rfl)]
  apply fA
  intro i hi
  obtain ⟨j,hj⟩:=bZ (hx i hi)
  simp only [hj,Option.bind_some]
  exact bC hj
 have hcs:∀ i ∈ idsL cs,i ∈ ord:=by
  have:=c3 id (c2 id (by simp))
  simpa only [kids,h1] using this
 have hcc:∀ i ∈ idsL [c],i ∈ ord:=by
  have:=c3 id2 (c2 id2 (by simp))
  simpa only [kids,h2] using this
 have hnew:∀ i ∈ idsL (cs.take len ++ [c]),i ∈ ord:=by
  intro i hi
  rw [bL,List.mem_append] at hi
  rcases hi with hi | hi
  ·refine hcs i ?_
   have:=List.take_append_drop len cs
   rw [← this,bL,List.mem_append]
   exact .inl hi
  ·exact hcc i hi
 have hmt:(aE (aI ord) cs).take len = aE (aI ord) (cs.take len):=A1 len cs
 have key:=CJ (E:=E) (call:=call) (thaw:=thaw) (dst:=dst) (op:=.call ⟨.builtin .append,args,#[t,t]⟩) (h:=h) (vs:=[A.sl id g 0 len,A.sl id2 g2 0 1]) (a:=.sl k (g + 1) 0 (len + 1)) (a2:=.sl id (g + 1) 0 (len + 1)) (o:=.vec (aE (aI ord) (cs.take len ++ [c])) 1 (g + 1)) (o2:=.vec (cs.take len ++ [c]) 1 (g + 1)) (id:=id) (k:=k) (ord:=ord) (by rw [hids]; exact hord) (by rw [hids]; exact c1) hk rfl ?_ (by simp only [mapA,bC hk]) (by simp only [mapO,bk _ hnew])
 ·rw [key,hord]
  rfl
 ·have hu:E.P.underlying t = some (.slice e):=by
   unfold cZ at he
   split at he
   ·rename_i hq; cases he; exact hq
   ·cases he
  have hv:BD (pack h ord) k = true:=by simp only [BD,p1,mapO]
  have hs:oB (pack h ord) 1 (.sl k2 g2 0 1) = some (1,aE (aI ord) [c]):=by
   simp [oB,p2,mapO,aE]
  simp only [aE,mapA,hk,hk2,evOp,dW,eO,cD,n9,hv,if_true,mV,he,hel,hce,hs,p1,mapO,true_and,or_true,Nat.mul_one,zD,hlen,hmax,and_self,hmt,cR,hu]
theorem sG {E:Env} {call:aW} {thaw:List Nat} {dst:Option Tmp} {x y:Operand} {t:TypeId} {h:H} {id id2 off g o len:Nat} {cs:List A} (ht:E.P.cellsOf t = 1) (hi:(E.P.info? t).isSome = true)
  (h1:h[id]? = some (.box cs)) (hoff:off + 1 ≤ cs.length) (ok1:Okay h id) (ok2:Okay h id2) (hw:2 + wgt h ≤ 1099511627776) :
  memD E call thaw dst (.store t x y) h [.ptr id 0 off,.sl id2 g o len] = some (.d .undef,h.set id (.box (bG cs off [.sl id2 g o len])),{ ids:=aD aG h [id,id2] [],ro:=false,wr:=aD aG h [id,id2] [] }):=by
 have hids:idsL [A.ptr id 0 off,A.sl id2 g o len] = [id,id2]:=rfl
 obtain ⟨c1,c2,c3⟩:=M1 (h:=h) (ids:=[id,id2]) (by intro i hi; simp at hi; rcases hi with rfl | rfl; exact ok1; exact ok2) (by simpa using hw)
 obtain ⟨ord,hord⟩:∃ ord,aD aG h [id,id2] [] = ord:=⟨_,rfl⟩
 rw [hord] at c1 c2 c3 ⊢
 obtain ⟨k,hk⟩:=bZ (c2 id (by simp))
 obtain ⟨k2,hk2⟩:=bZ (c2 id2 (by simp))
 have p1:=gX (h:=h) (bC hk) h1
 have bk:∀ xs:List A,(∀ i ∈ idsL xs,i ∈ ord) → aE (fun (k:Nat) => ord[k]?) (aE (aI ord) xs) = xs:=by
  intro xs hx
  rw [jS (q:=fun i => (aI ord i).bind fun k => ord[k]?) (fun _ => rfl)]
  apply fA
  intro i hi
  obtain ⟨j,hj⟩:=bZ (hx i hi)
  simp only [hj,Option.bind_some]
  exact bC hj
 have hcs:∀ i ∈ idsL cs,i ∈ ord:=by
  have:=c3 id (c2 id (by simp))
  simpa only [kids,h1] using this
 have split_cs:∀ q:Nat,(∀ i ∈ idsL (cs.take q),i ∈ ord) ∧ (∀ i ∈ idsL (cs.drop q),i ∈ ord):=by
  intro q
  have:=List.take_append_drop q cs
  constructor
  ·intro i hi
   refine hcs i ?_
   rw [← this,bL,List.mem_append]; exact .inl hi
  ·intro i hi
   refine hcs i ?_
   rw [← this,bL,List.mem_append]; exact .inr hi
 have hnew:∀ i ∈ idsL (bG cs off [.sl id2 g o len]),i ∈ ord:=by
  intro i hi
  unfold bG at hi
  rw [bL,bL,List.mem_append,List.mem_append] at hi
  rcases hi with (hi | hi) | hi
  ·exact (split_cs _).1 i hi
  ·simp [idsL,idsA] at hi; subst hi; exact c2 i (by simp)
  ·exact (split_cs _).2 i hi
 have hmr:bG (aE (aI ord) cs) off [.sl k2 g o len] = aE (aI ord) (bG cs off [.sl id2 g o len]):=by
  unfold bG
  rw [cR,cR,A1,KL]
  simp only [aE,mapA,hk2,List.length_cons,List.length_nil]
 have key:=CJ (E:=E) (call:=call) (thaw:=thaw) (dst:=dst) (op:=.store t x y) (h:=h) (vs:=[A.ptr id 0 off,A.sl id2 g o len]) (a:=.d .undef) (a2:=.d .undef) (o:=.box (aE (aI ord) (bG cs off [.sl id2 g o len]))) (o2:=.box (bG cs off [.sl id2 g o len])) (id:=id) (k:=k) (ord:=ord) (by rw [hids]; exact hord) (by rw [hids]; exact c1) hk rfl ?_ (by simp only [mapA]) (by simp only [mapO,bk _ hnew])
 ·rw [key]
  rfl
 ·have hoff2:off + 1 ≤ (aE (aI ord) cs).length:=by rw [zD]; exact hoff
  simp only [aE,mapA,hk,hk2,evOp,dW,two,iY,aX,List.length_cons,List.length_nil,Nat.zero_add,ht,hi,List.all_cons,List.all_nil,dX,Bool.and_self,and_self,if_true,p1,mapO,hoff2,a8,hmr,Option.map_some]
end Ev
end Go.Proofs.YtejmccgfigiadaaGreat
