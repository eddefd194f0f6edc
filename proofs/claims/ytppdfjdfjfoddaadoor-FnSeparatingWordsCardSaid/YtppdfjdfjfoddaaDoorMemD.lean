/-
  The exact laws' own functions, at automata: sizes, marks, what is held, copies.
-/
import Derived.Test.YtppdfjdfjfoddaaDoorBlock
set_option linter.unusedSimpArgs false
set_option linter.unusedVariables false
set_option maxRecDepth 8000
set_option maxHeartbeats 4000000
namespace Go.Proofs.YtppdfjdfjfoddaaDoor
namespace Ev
def aM:List (List Int) → Nat
 | [] => 0
 | r :: rs => r.length + aM rs
section
section
variable {h h2:H} {nf:Nat} (hn:nf = h.length) (hk:∀ o ∈ h,∀ j ∈ gZ o,j < nf)
include hn hk
end
theorem aFM {b k:Nat}:∀ {rs:List (List Int)} {b k:Nat},k < rs.length → ((aB b rs ++ aF 0).drop k).head? = some (.sl (b + k) 0 0 (rs.getD k []).length)
 | [],b,k,h => by simp at h
 | r :: rs,b,0,h => by simp [aB]
 | r :: rs,b,k + 1,h => by
  simp only [aB,List.cons_append,List.drop_succ_cons]
  rw [aFM (b:=b) (k:=k) (by simpa using h)]
  simp only [List.getD_cons_succ]
  congr 2
  omega
theorem aG6 {d:List (List Int)} {k:Nat} (h:k < d.length):(aH d)[k]? = some (.arr (ints (d.getD k [])) 1 0):=by
 rw [List.getD_eq_getElem?_getD,List.getElem?_eq_getElem h]
 exact WR (List.getElem?_eq_getElem h)
theorem aOg {d:List (List Int)} {k:Nat} {r:List Int}:(aH d).set k (.arr (ints r) 1 0) = aH (d.set k r):=by
 unfold aH
 rw [List.map_set]
 rfl
end
section
theorem SK {m:List Bool} {s:List A} {h:H} {ord:List Nat} (hr:aC aE h (idsL (tidy m s)) [] = ord):gc 0 m s h = (aS 0 (pack h ord) (aG (aI ord) (tidy m s)),eA 0 (pack h ord)):=by
 unfold gc trim
 rw [BV]
 unfold aE at hr
 rw [hr]
theorem j7 {h:H}:∀ (os:H) (i:Nat),gL 0 h i os = os.map (dF 0 h 0)
 | [],_ => rfl
 | o :: os,i => by
  simp only [gL,List.map_cons,j7 os (i + 1)]
  cases o <;> simp [dF]
theorem lA {h:H} {rs:List (List Int)}:(aH rs).map (dF 0 h 0) = aH rs:=by
 simp [aH,dF]
theorem iT {nf:Nat} {h:H}:∀ (xs ys:List A),aS nf h (xs ++ ys) = aS nf h xs ++ aS nf h ys
 | [],ys => by simp [aS]
 | x :: xs,ys => by simp [aS,iT xs ys]
theorem j3 {h:H}:∀ {rs:List (List Int)} {b:Nat},(∀ i,i < rs.length → bB h (b + i) = some 0) → aS 0 h (aB b rs) = aB b rs
 | [],b,_ => by simp [aB,aS]
 | r :: rs,b,hh => by
  have h0:=hh 0 (by simp)
  simp only [Nat.add_zero] at h0
  simp only [aB,aS,bT,kE,Nat.not_lt_zero,if_false,h0,if_true]
  rw [j3 (rs:=rs) (b:=b + 1) fun i hi => by
   rw [show b + 1 + i = b + (i + 1) by omega]
   exact hh (i + 1) (by simp; omega)]
theorem aO3 {f:Nat → Option Nat} {h:H} {b:Nat} {rs:List (List Int)} (hh:∀ (i:Nat) (r:List Int),rs[i]? = some r → h[b + i]? = some (.arr (ints r) 1 0)):(List.range' b rs.length).map (fun i => mapO f (h.getD i default)) = aH rs:=aFa hh
theorem I5 {rs:List (List Int)} {p:H} {i:Nat} {r:List Int} (h:rs[i]? = some r):(aH rs ++ p)[i]? = some (.arr (ints r) 1 0):=by
 rw [List.getElem?_append_left (by rw [dQ]; exact uQ h)]
 exact WR h
theorem H2 {b k:Nat} {rs:List (List Int)} (h:k = rs.length):(aB b rs ++ aF 0).take k = aB b rs:=by
 have hn:aF 0 = []:=rfl
 rw [hn,List.append_nil,List.take_of_length_le (by rw [j6]; omega)]
section
variable {x0 x1:D} {k z:Nat} {cs cr:List D} {d:List (List Int)} {p:H}
theorem bZ {h:H} {i:Nat} {r:List D} {e g:Nat} (hr:h[i]? = some (.arr r e g)):kids h i = []:=by simp only [kids,hr]
mutual
theorem aP2 {f g:Nat → Option Nat}:∀ a:A,(∀ i ∈ idsA a,f i = g i) → mapA f a = mapA g a
 | .d x,_ => by simp only [mapA]
 | .sl id gen off len,hi => by simp only [mapA,hi id (by simp [idsA])]
 | .ptr id gen off,hi => by simp only [mapA,hi id (by simp [idsA])]
 | .mp id,hi => by simp only [mapA,hi id (by simp [idsA])]
 | .clo q caps,hi => by simp only [mapA]; rw [o7 caps (by simpa only [idsA] using hi)]
 | .agg cs,hi => by simp only [mapA]; rw [o7 cs (by simpa only [idsA] using hi)]
 | .tup cs,hi => by simp only [mapA]; rw [o7 cs (by simpa only [idsA] using hi)]
 | .junk,_ => by simp only [mapA]
theorem o7 {f g:Nat → Option Nat}:∀ xs:List A,(∀ i ∈ idsL xs,f i = g i) → aG f xs = aG g xs
 | [],_ => by simp only [aG]
 | a :: xs,hi => by
  simp only [idsL,List.mem_append] at hi
  simp only [aG]
  rw [aP2 a fun i h => hi i (.inl h),o7 xs fun i h => hi i (.inr h)]
end
mutual
theorem aR9 {f:Nat → Option Nat}:∀ a:A,z0A a = true → z0A (mapA f a) = true
 | .d x,_ => by simp only [mapA,z0A]
 | .sl id gen off len,hz => by simp only [mapA]; cases f id <;> first | rfl | exact hz
 | .ptr id gen off,hz => by simp only [mapA]; cases f id <;> first | rfl | exact hz
 | .mp id,hz => by simp only [mapA]; cases f id <;> first | rfl | exact hz
 | .clo q caps,hz => by simp only [mapA,z0A] at hz ⊢; exact A6 caps hz
 | .agg cs,hz => by simp only [mapA,z0A] at hz ⊢; exact A6 cs hz
 | .tup cs,hz => by simp only [mapA,z0A] at hz ⊢; exact A6 cs hz
 | .junk,_ => by simp only [mapA,z0A]
theorem A6 {f:Nat → Option Nat}:∀ xs:List A,z0As xs = true → z0As (aG f xs) = true
 | [],_ => by simp only [aG,z0As]
 | a :: xs,hz => by
  simp only [z0As,Bool.and_eq_true] at hz
  simp only [aG,z0As,Bool.and_eq_true]
  exact ⟨aR9 a hz.1,A6 xs hz.2⟩
end
end
theorem mI {h p:H} {d:List (List Int)} (B:Nat) (hd:h.drop B = aH d ++ p):∀ (i:Nat) (r:List Int),d[i]? = some r → h[B + i]? = some (.arr (ints r) 1 0):=by
 intro i r hr
 rw [← List.getElem?_drop,hd]
 exact I5 hr
theorem zX {h p:H} {d:List (List Int)} (B q:Nat) (hd:h.drop B = aH d ++ p) {o:O} (ho:p[q]? = some o) {j:Nat} (hj:j = d.length + (B + q)):h[j]? = some o:=by
 subst hj
 rw [show d.length + (B + q) = B + (d.length + q) by omega,← List.getElem?_drop,hd,List.getElem?_append_right (by rw [dQ]; omega),dQ,Nat.add_sub_cancel_left]
 exact ho
theorem nE {h:H} {d:List (List Int)} {B:Nat} (gr:∀ (i:Nat) (r:List Int),d[i]? = some r → h[B + i]? = some (.arr (ints r) 1 0)):∀ i ∈ List.range' B d.length,∃ r:List Int,h[i]? = some (.arr (ints r) 1 0):=by
 intro i hi
 rw [List.mem_range'_1] at hi
 obtain ⟨j,rfl⟩:∃ j,i = B + j:=⟨i - B,by omega⟩
 exact ⟨d[j]'(by omega),gr j _ (List.getElem?_eq_getElem (by omega))⟩
theorem kP {h:H} {ids P T L:List Nat} {B n N:Nat} (hfix:P ++ (T ++ (List.range' B n ++ L)) = ids ++ P.flatMap (kids h)) (hprog:∀ k,k < P.length → k < ids.length + ((P.take k).flatMap (kids h)).length)
  (leaf:∀ i ∈ List.range' B n,∃ r:List Int,h[i]? = some (.arr (ints r) 1 0)) (hT:∀ i ∈ T ++ L,∃ cs e g,h[i]? = some (.arr cs e g)) (hP:∀ i ∈ P,∃ o,h[i]? = some o ∧ o ≠ .void)
  (hnd:(P ++ (T ++ L)).Nodup) (hout:∀ i ∈ P ++ (T ++ L),i < B ∨ B + n ≤ i) (hf:P.length + T.length + n + L.length ≤ N):aC N h ids [] = P ++ (T ++ (List.range' B n ++ L)):=by
 refine aLU hfix ?_ hprog ?_ ?_ ?_
 ·intro i hi
  rcases List.mem_append.1 hi with h1 | h1
  ·obtain ⟨cs,e,g,h2⟩:=hT i (List.mem_append.2 (.inl h1)); exact bZ h2
  ·rcases List.mem_append.1 h1 with h2 | h2
   ·obtain ⟨r,hr⟩:=leaf i h2; exact bZ hr
   ·obtain ⟨cs,e,g,h3⟩:=hT i (List.mem_append.2 (.inr h2)); exact bZ h3
 ·have hp:(P ++ (T ++ (List.range' B n ++ L))).Perm (List.range' B n ++ (P ++ (T ++ L))):=by
   have e1:(T ++ (List.range' B n ++ L)).Perm (List.range' B n ++ (T ++ L)):=by
    rw [← List.append_assoc T _ L,← List.append_assoc _ T L]
    exact List.Perm.append_right L List.perm_append_comm
   refine (List.Perm.append_left P e1).trans ?_
   rw [← List.append_assoc P _ (T ++ L),← List.append_assoc _ P (T ++ L)]
   exact List.Perm.append_right (T ++ L) List.perm_append_comm
  rw [hp.nodup_iff,List.nodup_append]
  refine ⟨List.nodup_range',hnd,fun a ha b hb e => ?_⟩
  subst e
  rw [List.mem_range'_1] at ha
  have:=hout a hb
  omega
 ·intro i hi
  rcases List.mem_append.1 hi with h1 | h1
  ·exact hP i h1
  ·rcases List.mem_append.1 h1 with h1 | h1
   ·obtain ⟨cs,e,g,h2⟩:=hT i (List.mem_append.2 (.inl h1)); exact ⟨_,h2,by simp⟩
   ·rcases List.mem_append.1 h1 with h2 | h2
    ·obtain ⟨r,hr⟩:=leaf i h2; exact ⟨_,hr,by simp⟩
    ·obtain ⟨cs,e,g,h3⟩:=hT i (List.mem_append.2 (.inr h2)); exact ⟨_,h3,by simp⟩
 ·simp only [List.length_append,List.length_range']; omega
theorem nG {ord A L:List Nat} {B C n:Nat} (pk:∀ i j,ord[j]? = some i → aI ord i = some j) (ho:ord = A ++ (List.range' B n ++ L)) (hA:A.length = C):∀ i,i < n → aI ord (B + i) = some (C + i):=by
 intro i hi
 refine pk _ _ ?_
 rw [ho,List.getElem?_append_right (by omega),hA,Nat.add_sub_cancel_left,List.getElem?_append_left (by simpa using hi),List.getElem?_range' hi]
 simp
theorem XO {ord A L:List Nat} {B C n:Nat} (pk:∀ i j,ord[j]? = some i → aI ord i = some j) (ho:ord = A ++ (List.range' B n ++ L)) (hA:A.length = C) (q:Nat) {i j:Nat} (hq:L[q]? = some i) (hj:j = n + (C + q)):aI ord i = some j:=by
 subst hj
 refine pk _ _ ?_
 rw [ho,List.getElem?_append_right (by omega),hA,show n + (C + q) - C = n + q by omega,List.getElem?_append_right (by simp),List.length_range',Nat.add_sub_cancel_left]
 exact hq
theorem r6 {K p:H} {d:List (List Int)} {C:Nat} (hd:K.drop C = aH d ++ p):∀ i,i < d.length → bB K (C + i) = some 0:=by
 intro i hi
 have:=mI C hd i _ (List.getElem?_eq_getElem hi)
 simp only [bB,this]
theorem pB {h:H} {ord A L:List Nat} {d:List (List Int)} {B:Nat} (ho:ord = A ++ (List.range' B d.length ++ L)) (gr:∀ (i:Nat) (r:List Int),d[i]? = some r → h[B + i]? = some (.arr (ints r) 1 0)):pack h ord = A.map (fun i => mapO (aI ord) (h.getD i default)) ++ (aH d ++ L.map (fun i => mapO (aI ord) (h.getD i default))):=by
 unfold pack
 conv => lhs; arg 2; rw [ho]
 rw [List.map_append,List.map_append,aO3 gr]
end
mutual
theorem aPI {p:H} (h0:bB p 0 = none):∀ a:A,bT 1 p a = bT 0 p a
 | .d x => by simp only [bT]
 | .sl id gen off len => by
  simp only [bT,kE,Nat.not_lt_zero,if_false]
  by_cases hi:id < 1
  ·obtain rfl:id = 0:=by omega
   simp [h0]
  ·rw [if_neg hi]
 | .ptr id gen off => by
  simp only [bT,L4,Nat.not_lt_zero,if_false]
  by_cases hi:id < 1
  ·obtain rfl:id = 0:=by omega
   simp [h0]
  ·rw [if_neg hi]
 | .mp id => by simp only [bT]
 | .clo g cs => by simp only [bT]; rw [zY h0 cs]
 | .agg cs => by simp only [bT]; rw [zY h0 cs]
 | .tup cs => by simp only [bT]; rw [zY h0 cs]
 | .junk => by simp only [bT]
theorem zY {p:H} (h0:bB p 0 = none):∀ xs:List A,aS 1 p xs = aS 0 p xs
 | [] => by simp only [aS]
 | x :: xs => by simp only [aS]; rw [aPI h0 x,zY h0 xs]
end
theorem aOU {p:H} (h0:bB p 0 = none) {i:Nat} (hi:1 ≤ i) (o:O):dF 1 p i o = dF 0 p i o:=by
 cases o <;> simp only [dF,Nat.not_lt_zero,if_false,zY h0,if_neg (show ¬ i < 1 by omega)]
theorem ZI {p:H} (h0:bB p 0 = none):∀ (os:H) (i:Nat),1 ≤ i → gL 1 p i os = gL 0 p i os
 | [],i,_ => rfl
 | o :: os,i,hi => by simp only [gL]; rw [aOU h0 hi,ZI h0 os (i + 1) (by omega)]
theorem aDN {x y:D} {t:H} {l:List Nat} {s:List A}:trim 1 (.box [.d x,.d y] :: t) (0 :: l) s = trim 0 (.box [.d x,.d y] :: t) (0 :: l) s:=by
 have hp:pack (.box [.d x,.d y] :: t) (0 :: l) = .box [.d x,.d y] :: l.map fun i => mapO (aI (0 :: l)) ((O.box [.d x,.d y] :: t).getD i default):=by
  simp [pack,mapO,aG,mapA]
 have h0:bB (pack (.box [.d x,.d y] :: t) (0 :: l)) 0 = none:=by rw [hp]; rfl
 unfold trim
 rw [zY h0]
 congr 1
 unfold eA
 generalize hq:pack (.box [.d x,.d y] :: t) (0 :: l) = p at *
 obtain ⟨os,hos⟩:∃ os,p = .box [.d x,.d y] :: os:=⟨_,hp⟩
 have key:∀ w:H,w = .box [.d x,.d y] :: os → gL 1 p 0 w = gL 0 p 0 w:=by
  intro w hw
  subst hw
  simp only [gL]
  rw [ZI h0 _ (0 + 1) (Nat.le_refl _)]
  simp only [dF,aS,bT]
 exact key p hos
theorem aPM {x y:D} {t:H} {n:Nat} {l:List Nat}:aC (n + 1) (.box [.d x,.d y] :: t) (0 :: l) [0] = aC n (.box [.d x,.d y] :: t) l [0]:=by
 simp [aC]
theorem SR {x y:D} {t:H} {n:Nat} {l:List Nat}:aC (n + 1) (.box [.d x,.d y] :: t) (0 :: l) [] = aC n (.box [.d x,.d y] :: t) l [0]:=by
 simp [aC,idsL,idsA]
theorem o8:∀ (n:Nat) (h:H) (todo acc:List Nat),∃ q,aC n h todo acc = acc ++ q
 | 0,h,todo,acc => ⟨[],by simp [aC]⟩
 | n + 1,h,[],acc => ⟨[],by simp [aC]⟩
 | n + 1,h,i :: todo,acc => by
  unfold aC
  split
  ·exact o8 n h todo acc
  ·split
   ·obtain ⟨q,hq⟩:=o8 n h (todo ++ idsL _) (acc ++ [i]); exact ⟨i :: q,by rw [hq]; simp⟩
   ·obtain ⟨q,hq⟩:=o8 n h (todo ++ idsL _) (acc ++ [i]); exact ⟨i :: q,by rw [hq]; simp⟩
   ·exact o8 n h todo acc
   ·obtain ⟨q,hq⟩:=o8 n h todo (acc ++ [i]); exact ⟨i :: q,by rw [hq]; simp⟩
   ·exact o8 n h todo acc
theorem aSq {x y:D} {t:H} {l:List Nat}:fK 1 (.box [.d x,.d y] :: t) (0 :: l) = fK 0 (.box [.d x,.d y] :: t) (0 :: l):=by
 rw [vZ,vZ]
 have e1:fU (List.take 1 (O.box [.d x,.d y] :: t)) ++ 0 :: l = 0 :: l:=by simp [fU,idsL,idsA]
 have e2:fU (List.take 0 (O.box [.d x,.d y] :: t)) ++ 0 :: l = 0 :: l:=by simp [fU]
 have e3:List.range 1 = [0]:=rfl
 have e4:List.range 0 = ([]:List Nat):=rfl
 rw [e1,e2,e3,e4,show (1099511627776:Nat) = 1099511627775 + 1 from rfl,aPM,SR]
theorem aIk {x y:D} {t:H} {l:List Nat}:fK 1 (.box [.d x,.d y] :: t) l = aC (aE + 1) (.box [.d x,.d y] :: t) (0 :: l) []:=by
 rw [vZ,SR]
 have e1:fU (List.take 1 (O.box [.d x,.d y] :: t)) ++ l = l:=by simp [fU,idsL,idsA]
 have e3:List.range 1 = [0]:=rfl
 rw [e1,e3]
 rfl
theorem aTu {m:List Bool} {s:List A} {x y:D} {t:H} {l:List Nat} (hid:idsL (tidy m s) = 0 :: l):gc 1 m s (.box [.d x,.d y] :: t) = gc 0 m s (.box [.d x,.d y] :: t):=by
 unfold gc
 rw [hid,aSq]
 obtain ⟨q,hq⟩:=o8 1099511627775 (.box [.d x,.d y] :: t) l [0]
 have:fK 0 (.box [.d x,.d y] :: t) (0 :: l) = 0 :: q:=by
  rw [vZ]
  have e2:fU (List.take 0 (O.box [.d x,.d y] :: t)) ++ 0 :: l = 0 :: l:=by simp [fU]
  have e4:List.range 0 = ([]:List Nat):=rfl
  rw [e2,e4,show (1099511627776:Nat) = 1099511627775 + 1 from rfl,SR,hq]
  rfl
 rw [this,aDN]
theorem X3 {m:List Bool} {s:List A} {x y:D} {t h:H} {l:List Nat} (hh:O.box [.d x,.d y] :: t = h) (hid:idsL (tidy m s) = 0 :: l):gc 1 m s h = gc 0 m s h:=by
 subst hh
 exact aTu hid
theorem aBC {m:List Bool} {s:List A} {x y:D} {t h:H} {l ord:List Nat} (hh:O.box [.d x,.d y] :: t = h) (hi:idsL (tidy m s) = l) (hr:aC (aE + 1) h (0 :: l) [] = ord):gc 1 m s h = (aS 0 (pack h ord) (aG (aI ord) (tidy m s)),eA 0 (pack h ord)):=by
 subst hh
 unfold gc
 rw [hi,aIk,hr]
 obtain ⟨q,hq⟩:=o8 aE (.box [.d x,.d y] :: t) l [0]
 have e:ord = 0 :: q:=by
  rw [← hr,SR,hq]
  rfl
 rw [e,aDN]
 rfl
def YE (n:Nat) (ids:List Nat):Bool:=decide (ids = [3,n + 8])
theorem aKI {n:Nat} {ke2:Nat} (he2:ke2 = n + 8):YE n [3,ke2] = true:=by subst he2; simp [YE]
def I6 (n i:Nat):Option Nat:=if i = 0 then some 0 else if i = 3 then some 1 else if i = n + 8 then some 2 else none
theorem aF0 {n:Nat}:I6 n 3 = some (1):=by unfold I6; repeat (first | rfl | rw [if_pos rfl] | rw [if_neg (by omega)])
theorem aB7 {n k:Nat} (h:k = n + 8):I6 n k = some (2):=by subst h; unfold I6; repeat (first | rfl | rw [if_pos rfl] | rw [if_neg (by omega)])
theorem aSf {m:List Bool} {s:List A} {y1 y2 x0 x1:D} {k z:Nat} {cs:List D} {d:List (List Int)} (hl:d.length ≤ 4294967296):gc 1 m s (.box [.d y1,.d y2] :: .arr [] 0 0 :: .arr [] 0 0 :: .box [.d x0,.sl 1 0 0 0,.sl 2 0 0 0] :: .vec (aB 6 d ++ aF 0) 1 0 :: .arr cs 1 0 :: (aH d ++ [.arr [] 0 0,.arr [] 0 0,.box [.d x1,.sl 4 0 0 k,.sl 5 0 0 z]])) = match box (tidy m s) with
  | .mk s1 => if YE d.length (idsL s1) = true ∧ z0As s1 = true then (aG (I6 d.length) s1,.box [.d y1,.d y2] :: .box [.d x0,.sl 3 0 0 0,.sl 4 0 0 0] :: .box [.d x1,.sl 5 0 0 k,.sl 6 0 0 z] :: .arr [] 0 0 :: .arr [] 0 0 :: .vec (aB 7 d ++ aF 0) 1 0 :: .arr cs 1 0 :: aH d) else gcO 1 m s (.box [.d y1,.d y2] :: .arr [] 0 0 :: .arr [] 0 0 :: .box [.d x0,.sl 1 0 0 0,.sl 2 0 0 0] :: .vec (aB 6 d ++ aF 0) 1 0 :: .arr cs 1 0 :: (aH d ++ [.arr [] 0 0,.arr [] 0 0,.box [.d x1,.sl 4 0 0 k,.sl 5 0 0 z]]))
  | .no => ([],[]):=by
 simp only [box]
 split
 ·rename_i hc
  obtain ⟨hb,hz⟩:=hc
  have hids:idsL (tidy m s) = [3,d.length + 8]:=by simpa [YE] using hb
  obtain ⟨h,hh⟩:∃ h:H,O.box [.d y1,.d y2] :: .arr [] 0 0 :: .arr [] 0 0 :: .box [.d x0,.sl 1 0 0 0,.sl 2 0 0 0] :: .vec (aB 6 d ++ aF 0) 1 0 :: .arr cs 1 0 :: (aH d ++ [.arr [] 0 0,.arr [] 0 0,.box [.d x1,.sl 4 0 0 k,.sl 5 0 0 z]]) = h:=⟨_,rfl⟩
  conv => lhs; rw [hh]
  have g0:h[0]? = some (.box [.d y1,.d y2]):=by rw [← hh]; rfl
  have g1:h[1]? = some (.arr [] 0 0):=by rw [← hh]; rfl
  have g2:h[2]? = some (.arr [] 0 0):=by rw [← hh]; rfl
  have g3:h[3]? = some (.box [.d x0,.sl 1 0 0 0,.sl 2 0 0 0]):=by rw [← hh]; rfl
  have g4:h[4]? = some (.vec (aB 6 d ++ aF 0) 1 0):=by rw [← hh]; rfl
  have g5:h[5]? = some (.arr cs 1 0):=by rw [← hh]; rfl
  have hD:h.drop 6 = aH d ++ [.arr [] 0 0,.arr [] 0 0,.box [.d x1,.sl 4 0 0 k,.sl 5 0 0 z]]:=by rw [← hh]; rfl
  have gr:=mI 6 hD
  have ge2:h[d.length + 8]? = some (.box [.d x1,.sl 4 0 0 k,.sl 5 0 0 z]):=zX 6 2 hD rfl (by omega)
  have k0:kids h (0) = []:=by simp [kids,g0,idsL,idsA]
  have k3:kids h (3) = [1,2]:=by simp [kids,g3,idsL,idsA]
  have ke2:kids h (d.length + 8) = [4,5]:=by simp [kids,ge2,idsL,idsA]
  have k1:kids h (1) = []:=bZ g1
  have k2:kids h (2) = []:=bZ g2
  have k4:kids h (4) = List.range' 6 d.length:=by simp [kids,g4,bW,c9,eM,idsL,idsA]
  have leaf:=nE gr
  have hr:aC (aE + 1) h [0,3,d.length + 8] [] = [0,3,d.length + 8,1,2,4] ++ ([5] ++ (List.range' 6 d.length ++ [])):=kP (by simp [k0,k3,ke2,k1,k2,k4]) (by intro q hq; simp only [List.length_cons,List.length_nil] at hq; have:q = 0 ∨ q = 1 ∨ q = 2 ∨ q = 3 ∨ q = 4 ∨ q = 5:=(by omega); rcases this with rfl | rfl | rfl | rfl | rfl | rfl <;> simp [k0,k3,ke2,k1,k2,k4]) leaf (by intro i hi; simp at hi; subst hi; exact ⟨_,_,_,by assumption⟩) (by intro i hi; simp at hi; rcases hi with rfl | rfl | rfl | rfl | rfl | rfl <;> exact ⟨_,by assumption,by simp⟩) (by simp <;> omega) (by intro i hi; simp at hi; omega) (by simp only [aE,List.length_cons,List.length_nil]; omega)
  generalize hord:[0,3,d.length + 8,1,2,4] ++ ([5] ++ (List.range' 6 d.length ++ [])) = ord at hr
  have hA:ord = ([0,3,d.length + 8,1,2,4] ++ [5]) ++ (List.range' 6 d.length ++ []):=by rw [← hord,List.append_assoc]
  have pk:∀ i j,ord[j]? = some i → aI ord i = some j:=fun i j h1 => fS (by rw [← hr]; exact cY (aE + 1) h _ [] (by simp)) h1
  have p0:=pk (0) 0 (by rw [← hord]; rfl)
  have p3:=pk (3) 1 (by rw [← hord]; rfl)
  have pe2:=pk (d.length + 8) 2 (by rw [← hord]; rfl)
  have p1:=pk (1) 3 (by rw [← hord]; rfl)
  have p2:=pk (2) 4 (by rw [← hord]; rfl)
  have p4:=pk (4) 5 (by rw [← hord]; rfl)
  have p5:=pk (5) 6 (by rw [← hord]; rfl)
  have pr:=nG (C:=7) pk hA rfl
  obtain ⟨K,hK⟩:∃ K:H,O.box [.d y1,.d y2] :: .box [.d x0,.sl 3 0 0 0,.sl 4 0 0 0] :: .box [.d x1,.sl 5 0 0 k,.sl 6 0 0 z] :: .arr [] 0 0 :: .arr [] 0 0 :: .vec (aB 7 d ++ aF 0) 1 0 :: .arr cs 1 0 :: aH d = K:=⟨_,rfl⟩
  have hni:∀ f,aG f (aF 0) = aF 0:=fun _ => rfl
  have hpk:pack h ord = K:=by
   have hrf:aG (aI ord) (aB 6 d) = aB 7 d:=jD (c:=0) pr
   rw [pB hA gr,← hK]
   simp only [List.cons_append,List.nil_append,List.map_cons,List.map_nil,List.getD_eq_getElem?_getD,g0,g3,ge2,g1,g2,g4,g5,Option.getD_some,mapO,aG,mapA,eX,hrf,hni,p0,p3,pe2,p1,p2,p4,p5,List.append_nil]
  have hKD:K.drop 7 = aH d ++ []:=by rw [← hK]; exact (List.append_nil _).symm
  have hgr:=r6 hKD
  have hcm:eA 0 K = .box [.d y1,.d y2] :: .box [.d x0,.sl 3 0 0 0,.sl 4 0 0 0] :: .box [.d x1,.sl 5 0 0 k,.sl 6 0 0 z] :: .arr [] 0 0 :: .arr [] 0 0 :: .vec (aB 7 d ++ aF 0) 1 0 :: .arr cs 1 0 :: aH d:=by
   have hrf:aS 0 K (aB 7 d) = aB 7 d:=j3 hgr
   have hnc:∀ h:H,aS 0 h (aF 0) = aF 0:=fun _ => rfl
   have q3:bB K 3 = some 0:=by rw [← hK]; rfl
   have q4:bB K 4 = some 0:=by rw [← hK]; rfl
   have q5:bB K 5 = some 0:=by rw [← hK]; rfl
   have q6:bB K 6 = some 0:=by rw [← hK]; rfl
   unfold eA
   rw [j7]
   conv => lhs; arg 2; rw [← hK]
   simp only [List.map_cons,List.map_append,List.map_nil,dF,aS,bT,kE,iT,hrf,hnc,lA,q3,q4,q5,q6,Nat.not_lt_zero,if_false,if_true]
  subst hK
  rw [aBC hh hids hr,hpk,hcm]
  have hmp:aG (aI ord) (tidy m s) = aG (I6 d.length) (tidy m s):=by
   apply o7
   rw [hids]
   intro i hi
   simp only [List.mem_cons,List.not_mem_nil,or_false] at hi
   rcases hi with rfl | rfl
   ·rw [p3,aF0]
   ·rw [pe2,aB7 rfl]
  have hz2:aS 0 (O.box [.d y1,.d y2] :: .box [.d x0,.sl 3 0 0 0,.sl 4 0 0 0] :: .box [.d x1,.sl 5 0 0 k,.sl 6 0 0 z] :: .arr [] 0 0 :: .arr [] 0 0 :: .vec (aB 7 d ++ aF 0) 1 0 :: .arr cs 1 0 :: aH d) (aG (aI ord) (tidy m s)) = aG (aI ord) (tidy m s):=by
   exact oU (JM (by simp [z0O,z0As,z0A,D8,zO,zP,KE])) _ (A6 _ hz)
  rw [hz2,hmp]
 ·rfl
def D3 (n i:Nat):Option Nat:=if i = 0 then some 0 else if i = 1 then some 1 else if i = 2 then some 2 else none
theorem vA {n:Nat}:D3 n 1 = some (1):=by unfold D3; repeat (first | rfl | rw [if_pos rfl] | rw [if_neg (by omega)])
theorem vH {n:Nat}:D3 n 2 = some (2):=by unfold D3; repeat (first | rfl | rw [if_pos rfl] | rw [if_neg (by omega)])
theorem IS {m:List Bool} {s:List A} {y1 y2 x0 x1:D} {k z:Nat} {cs:List D} {d:List (List Int)} (hl:d.length ≤ 4294967296):gc 1 m s (.box [.d y1,.d y2] :: .box [.d x0,.sl 3 0 0 0,.sl 4 0 0 0] :: .box [.d x1,.sl 5 0 0 k,.sl 6 0 0 z] :: .arr [] 0 0 :: .arr [] 0 0 :: .vec (aB 7 d ++ aF 0) 1 0 :: .arr cs 1 0 :: aH d) = match box (tidy m s) with
  | .mk s1 => if idsL s1 = [1,2] ∧ z0As s1 = true then (aG (D3 d.length) s1,.box [.d y1,.d y2] :: .box [.d x0,.sl 3 0 0 0,.sl 4 0 0 0] :: .box [.d x1,.sl 5 0 0 k,.sl 6 0 0 z] :: .arr [] 0 0 :: .arr [] 0 0 :: .vec (aB 7 d ++ aF 0) 1 0 :: .arr cs 1 0 :: aH d) else gcO 1 m s (.box [.d y1,.d y2] :: .box [.d x0,.sl 3 0 0 0,.sl 4 0 0 0] :: .box [.d x1,.sl 5 0 0 k,.sl 6 0 0 z] :: .arr [] 0 0 :: .arr [] 0 0 :: .vec (aB 7 d ++ aF 0) 1 0 :: .arr cs 1 0 :: aH d)
  | .no => ([],[]):=by
 simp only [box]
 split
 ·rename_i hc
  obtain ⟨hb,hz⟩:=hc
  have hids:idsL (tidy m s) = [1,2]:=by exact hb
  obtain ⟨h,hh⟩:∃ h:H,O.box [.d y1,.d y2] :: .box [.d x0,.sl 3 0 0 0,.sl 4 0 0 0] :: .box [.d x1,.sl 5 0 0 k,.sl 6 0 0 z] :: .arr [] 0 0 :: .arr [] 0 0 :: .vec (aB 7 d ++ aF 0) 1 0 :: .arr cs 1 0 :: aH d = h:=⟨_,rfl⟩
  conv => lhs; rw [hh]
  have g0:h[0]? = some (.box [.d y1,.d y2]):=by rw [← hh]; rfl
  have g1:h[1]? = some (.box [.d x0,.sl 3 0 0 0,.sl 4 0 0 0]):=by rw [← hh]; rfl
  have g2:h[2]? = some (.box [.d x1,.sl 5 0 0 k,.sl 6 0 0 z]):=by rw [← hh]; rfl
  have g3:h[3]? = some (.arr [] 0 0):=by rw [← hh]; rfl
  have g4:h[4]? = some (.arr [] 0 0):=by rw [← hh]; rfl
  have g5:h[5]? = some (.vec (aB 7 d ++ aF 0) 1 0):=by rw [← hh]; rfl
  have g6:h[6]? = some (.arr cs 1 0):=by rw [← hh]; rfl
  have hD:h.drop 7 = aH d ++ []:=by rw [← hh]; exact (List.append_nil _).symm
  have gr:=mI 7 hD
  have k0:kids h (0) = []:=by simp [kids,g0,idsL,idsA]
  have k1:kids h (1) = [3,4]:=by simp [kids,g1,idsL,idsA]
  have k2:kids h (2) = [5,6]:=by simp [kids,g2,idsL,idsA]
  have k3:kids h (3) = []:=bZ g3
  have k4:kids h (4) = []:=bZ g4
  have k5:kids h (5) = List.range' 7 d.length:=by simp [kids,g5,bW,c9,eM,idsL,idsA]
  have leaf:=nE gr
  have hr:aC (aE + 1) h [0,1,2] [] = [0,1,2,3,4,5] ++ ([6] ++ (List.range' 7 d.length ++ [])):=kP (by simp [k0,k1,k2,k3,k4,k5]) (by intro q hq; simp only [List.length_cons,List.length_nil] at hq; have:q = 0 ∨ q = 1 ∨ q = 2 ∨ q = 3 ∨ q = 4 ∨ q = 5:=(by omega); rcases this with rfl | rfl | rfl | rfl | rfl | rfl <;> simp [k0,k1,k2,k3,k4,k5]) leaf (by intro i hi; simp at hi; subst hi; exact ⟨_,_,_,by assumption⟩) (by intro i hi; simp at hi; rcases hi with rfl | rfl | rfl | rfl | rfl | rfl <;> exact ⟨_,by assumption,by simp⟩) (by simp <;> omega) (by intro i hi; simp at hi; omega) (by simp only [aE,List.length_cons,List.length_nil]; omega)
  generalize hord:[0,1,2,3,4,5] ++ ([6] ++ (List.range' 7 d.length ++ [])) = ord at hr
  have hA:ord = ([0,1,2,3,4,5] ++ [6]) ++ (List.range' 7 d.length ++ []):=by rw [← hord,List.append_assoc]
  have pk:∀ i j,ord[j]? = some i → aI ord i = some j:=fun i j h1 => fS (by rw [← hr]; exact cY (aE + 1) h _ [] (by simp)) h1
  have p0:=pk (0) 0 (by rw [← hord]; rfl)
  have p1:=pk (1) 1 (by rw [← hord]; rfl)
  have p2:=pk (2) 2 (by rw [← hord]; rfl)
  have p3:=pk (3) 3 (by rw [← hord]; rfl)
  have p4:=pk (4) 4 (by rw [← hord]; rfl)
  have p5:=pk (5) 5 (by rw [← hord]; rfl)
  have p6:=pk (6) 6 (by rw [← hord]; rfl)
  have pr:=nG (C:=7) pk hA rfl
  obtain ⟨K,hK⟩:∃ K:H,O.box [.d y1,.d y2] :: .box [.d x0,.sl 3 0 0 0,.sl 4 0 0 0] :: .box [.d x1,.sl 5 0 0 k,.sl 6 0 0 z] :: .arr [] 0 0 :: .arr [] 0 0 :: .vec (aB 7 d ++ aF 0) 1 0 :: .arr cs 1 0 :: aH d = K:=⟨_,rfl⟩
  have hni:∀ f,aG f (aF 0) = aF 0:=fun _ => rfl
  have hpk:pack h ord = K:=by
   have hrf:aG (aI ord) (aB 7 d) = aB 7 d:=jD (c:=0) pr
   rw [pB hA gr,← hK]
   simp only [List.cons_append,List.nil_append,List.map_cons,List.map_nil,List.getD_eq_getElem?_getD,g0,g1,g2,g3,g4,g5,g6,Option.getD_some,mapO,aG,mapA,eX,hrf,hni,p0,p1,p2,p3,p4,p5,p6,List.append_nil]
  have hKD:K.drop 7 = aH d ++ []:=by rw [← hK]; exact (List.append_nil _).symm
  have hgr:=r6 hKD
  have hcm:eA 0 K = .box [.d y1,.d y2] :: .box [.d x0,.sl 3 0 0 0,.sl 4 0 0 0] :: .box [.d x1,.sl 5 0 0 k,.sl 6 0 0 z] :: .arr [] 0 0 :: .arr [] 0 0 :: .vec (aB 7 d ++ aF 0) 1 0 :: .arr cs 1 0 :: aH d:=by
   have hrf:aS 0 K (aB 7 d) = aB 7 d:=j3 hgr
   have hnc:∀ h:H,aS 0 h (aF 0) = aF 0:=fun _ => rfl
   have q3:bB K 3 = some 0:=by rw [← hK]; rfl
   have q4:bB K 4 = some 0:=by rw [← hK]; rfl
   have q5:bB K 5 = some 0:=by rw [← hK]; rfl
   have q6:bB K 6 = some 0:=by rw [← hK]; rfl
   unfold eA
   rw [j7]
   conv => lhs; arg 2; rw [← hK]
   simp only [List.map_cons,List.map_append,List.map_nil,dF,aS,bT,kE,iT,hrf,hnc,lA,q3,q4,q5,q6,Nat.not_lt_zero,if_false,if_true]
  subst hK
  rw [aBC hh hids hr,hpk,hcm]
  have hmp:aG (aI ord) (tidy m s) = aG (D3 d.length) (tidy m s):=by
   apply o7
   rw [hids]
   intro i hi
   simp only [List.mem_cons,List.not_mem_nil,or_false] at hi
   rcases hi with rfl | rfl
   ·rw [p1,vA]
   ·rw [p2,vH]
  have hz2:aS 0 (O.box [.d y1,.d y2] :: .box [.d x0,.sl 3 0 0 0,.sl 4 0 0 0] :: .box [.d x1,.sl 5 0 0 k,.sl 6 0 0 z] :: .arr [] 0 0 :: .arr [] 0 0 :: .vec (aB 7 d ++ aF 0) 1 0 :: .arr cs 1 0 :: aH d) (aG (aI ord) (tidy m s)) = aG (aI ord) (tidy m s):=by
   exact oU (JM (by simp [z0O,z0As,z0A,D8,zO,zP,KE])) _ (A6 _ hz)
  rw [hz2,hmp]
 ·rfl
theorem aSP {m:List Bool} {s:List A} {y1 y2 x0 x1:D} {k z:Nat} {r:List Int} {cs:List D} {d:List (List Int)} {p:H} (hl:d.length ≤ 4294967296):gc 1 m s (.box [.d y1,.d y2] :: .box [.d x0,.sl 4 0 0 0,.sl 5 0 0 0] :: .box [.d x1,.sl 6 1 0 k,.sl 7 1 0 z] :: .arr (ints r) 1 0 :: .arr [] 0 0 :: .arr [] 0 0 :: .vec (aB 8 d ++ [.sl 3 0 0 r.length]) 1 1 :: .arr cs 1 1 :: (aH d ++ p)) = match box (tidy m s) with
  | .mk s1 => if idsL s1 = [0,1,2] then (aS 0 (.box [.d y1,.d y2] :: .box [.d x0,.sl 3 0 0 0,.sl 4 0 0 0] :: .box [.d x1,.sl 5 1 0 k,.sl 6 1 0 z] :: .arr [] 0 0 :: .arr [] 0 0 :: .vec (aB 7 d ++ [.sl (d.length + 7) 0 0 r.length]) 1 1 :: .arr cs 1 1 :: (aH d ++ [.arr (ints r) 1 0])) (s1),.box [.d y1,.d y2] :: .box [.d x0,.sl 3 0 0 0,.sl 4 0 0 0] :: .box [.d x1,.sl 5 0 0 k,.sl 6 0 0 z] :: .arr [] 0 0 :: .arr [] 0 0 :: .vec (aB 7 d ++ [.sl (d.length + 7) 0 0 r.length]) 1 0 :: .arr cs 1 0 :: (aH d ++ [.arr (ints r) 1 0])) else gcO 1 m s (.box [.d y1,.d y2] :: .box [.d x0,.sl 4 0 0 0,.sl 5 0 0 0] :: .box [.d x1,.sl 6 1 0 k,.sl 7 1 0 z] :: .arr (ints r) 1 0 :: .arr [] 0 0 :: .arr [] 0 0 :: .vec (aB 8 d ++ [.sl 3 0 0 r.length]) 1 1 :: .arr cs 1 1 :: (aH d ++ p))
  | .no => ([],[]):=by
 simp only [box]
 split
 ·rename_i hc
  have hb:=hc
  have hids:idsL (tidy m s) = [0,1,2]:=by exact hb
  obtain ⟨h,hh⟩:∃ h:H,O.box [.d y1,.d y2] :: .box [.d x0,.sl 4 0 0 0,.sl 5 0 0 0] :: .box [.d x1,.sl 6 1 0 k,.sl 7 1 0 z] :: .arr (ints r) 1 0 :: .arr [] 0 0 :: .arr [] 0 0 :: .vec (aB 8 d ++ [.sl 3 0 0 r.length]) 1 1 :: .arr cs 1 1 :: (aH d ++ p) = h:=⟨_,rfl⟩
  conv => lhs; rw [hh]
  have g0:h[0]? = some (.box [.d y1,.d y2]):=by rw [← hh]; rfl
  have g1:h[1]? = some (.box [.d x0,.sl 4 0 0 0,.sl 5 0 0 0]):=by rw [← hh]; rfl
  have g2:h[2]? = some (.box [.d x1,.sl 6 1 0 k,.sl 7 1 0 z]):=by rw [← hh]; rfl
  have g3:h[3]? = some (.arr (ints r) 1 0):=by rw [← hh]; rfl
  have g4:h[4]? = some (.arr [] 0 0):=by rw [← hh]; rfl
  have g5:h[5]? = some (.arr [] 0 0):=by rw [← hh]; rfl
  have g6:h[6]? = some (.vec (aB 8 d ++ [.sl 3 0 0 r.length]) 1 1):=by rw [← hh]; rfl
  have g7:h[7]? = some (.arr cs 1 1):=by rw [← hh]; rfl
  have hD:h.drop 8 = aH d ++ p:=by rw [← hh]; rfl
  have gr:=mI 8 hD
  have k0:kids h (0) = []:=by simp [kids,g0,idsL,idsA]
  have k1:kids h (1) = [4,5]:=by simp [kids,g1,idsL,idsA]
  have k2:kids h (2) = [6,7]:=by simp [kids,g2,idsL,idsA]
  have k4:kids h (4) = []:=bZ g4
  have k5:kids h (5) = []:=bZ g5
  have k6:kids h (6) = List.range' 8 d.length ++ [3]:=by simp [kids,g6,bW,c9,eM,idsL,idsA]
  have leaf:=nE gr
  have hr:aC aE h [0,1,2] [] = [0,1,2,4,5,6] ++ ([7] ++ (List.range' 8 d.length ++ [3])):=kP (by simp [k0,k1,k2,k4,k5,k6]) (by intro q hq; simp only [List.length_cons,List.length_nil] at hq; have:q = 0 ∨ q = 1 ∨ q = 2 ∨ q = 3 ∨ q = 4 ∨ q = 5:=(by omega); rcases this with rfl | rfl | rfl | rfl | rfl | rfl <;> simp [k0,k1,k2,k4,k5,k6]) leaf (by intro i hi; simp at hi; rcases hi with rfl | rfl <;> exact ⟨_,_,_,by assumption⟩) (by intro i hi; simp at hi; rcases hi with rfl | rfl | rfl | rfl | rfl | rfl <;> exact ⟨_,by assumption,by simp⟩) (by simp <;> omega) (by intro i hi; simp at hi; omega) (by simp only [aE,List.length_cons,List.length_nil]; omega)
  generalize hord:[0,1,2,4,5,6] ++ ([7] ++ (List.range' 8 d.length ++ [3])) = ord at hr
  have hA:ord = ([0,1,2,4,5,6] ++ [7]) ++ (List.range' 8 d.length ++ [3]):=by rw [← hord,List.append_assoc]
  have pk:∀ i j,ord[j]? = some i → aI ord i = some j:=fun i j h1 => fS (by rw [← hr]; exact cY aE h _ [] (by simp)) h1
  have p0:=pk (0) 0 (by rw [← hord]; rfl)
  have p1:=pk (1) 1 (by rw [← hord]; rfl)
  have p2:=pk (2) 2 (by rw [← hord]; rfl)
  have p4:=pk (4) 3 (by rw [← hord]; rfl)
  have p5:=pk (5) 4 (by rw [← hord]; rfl)
  have p6:=pk (6) 5 (by rw [← hord]; rfl)
  have p7:=pk (7) 6 (by rw [← hord]; rfl)
  have pr:=nG (C:=7) pk hA rfl
  have p3:=XO (C:=7) pk hA rfl 0 (i:=3) (j:=d.length + 7) rfl (by omega)
  obtain ⟨K,hK⟩:∃ K:H,O.box [.d y1,.d y2] :: .box [.d x0,.sl 3 0 0 0,.sl 4 0 0 0] :: .box [.d x1,.sl 5 1 0 k,.sl 6 1 0 z] :: .arr [] 0 0 :: .arr [] 0 0 :: .vec (aB 7 d ++ [.sl (d.length + 7) 0 0 r.length]) 1 1 :: .arr cs 1 1 :: (aH d ++ [.arr (ints r) 1 0]) = K:=⟨_,rfl⟩
  have hni:∀ f,aG f (aF 0) = aF 0:=fun _ => rfl
  have hpk:pack h ord = K:=by
   have hrf:aG (aI ord) (aB 8 d) = aB 7 d:=jD (c:=0) pr
   rw [pB hA gr,← hK]
   simp only [List.cons_append,List.nil_append,List.map_cons,List.map_nil,List.getD_eq_getElem?_getD,g0,g1,g2,g4,g5,g6,g7,g3,Option.getD_some,mapO,aG,mapA,eX,hrf,hni,p0,p1,p2,p4,p5,p6,p7,p3,List.append_nil]
  have hKD:K.drop 7 = aH d ++ [.arr (ints r) 1 0]:=by rw [← hK]; rfl
  have hgr:=r6 hKD
  have hge0:bB K (d.length + 7) = some 0:=by simp only [bB,zX 7 0 hKD rfl (j:=d.length + 7) (by omega)]
  have hcm:eA 0 K = .box [.d y1,.d y2] :: .box [.d x0,.sl 3 0 0 0,.sl 4 0 0 0] :: .box [.d x1,.sl 5 0 0 k,.sl 6 0 0 z] :: .arr [] 0 0 :: .arr [] 0 0 :: .vec (aB 7 d ++ [.sl (d.length + 7) 0 0 r.length]) 1 0 :: .arr cs 1 0 :: (aH d ++ [.arr (ints r) 1 0]):=by
   have hrf:aS 0 K (aB 7 d) = aB 7 d:=j3 hgr
   have hnc:∀ h:H,aS 0 h (aF 0) = aF 0:=fun _ => rfl
   have q3:bB K 3 = some 0:=by rw [← hK]; rfl
   have q4:bB K 4 = some 0:=by rw [← hK]; rfl
   have q5:bB K 5 = some 1:=by rw [← hK]; rfl
   have q6:bB K 6 = some 1:=by rw [← hK]; rfl
   unfold eA
   rw [j7]
   conv => lhs; arg 2; rw [← hK]
   simp only [List.map_cons,List.map_append,List.map_nil,dF,aS,bT,kE,iT,hrf,hnc,lA,q3,q4,q5,q6,hge0,Nat.not_lt_zero,if_false,if_true]
  subst hK
  rw [X3 hh hids,SK (ord:=ord) (by rw [hids]; exact hr),hpk,hcm]
  have hmp:aG (aI ord) (tidy m s) = tidy m s:=by
   apply j4
   rw [hids]
   intro i hi
   simp only [List.mem_cons,List.not_mem_nil,or_false] at hi
   rcases hi with rfl | rfl | rfl
   ·exact p0
   ·exact p1
   ·exact p2
  rw [hmp]
 ·rfl
theorem aR6 {m:List Bool} {s:List A} {y1 y2 x0 x1:D} {k z:Nat} {cs:List D} {d:List (List Int)} (hl:d.length ≤ 4294967296):gc 1 m s (.box [.d y1,.d y2] :: .box [.d x0,.sl 3 0 0 0,.sl 4 0 0 0] :: .box [.d x1,.sl 5 0 0 k,.sl 6 0 0 z] :: .arr [] 0 0 :: .arr [] 0 0 :: .vec (aB 7 d ++ aF 0) 1 0 :: .arr cs 1 0 :: aH d) = match box (tidy m s) with
  | .mk s1 => if idsL s1 = [0,1,2] then (aS 0 (.box [.d y1,.d y2] :: .box [.d x0,.sl 3 0 0 0,.sl 4 0 0 0] :: .box [.d x1,.sl 5 0 0 k,.sl 6 0 0 z] :: .arr [] 0 0 :: .arr [] 0 0 :: .vec (aB 7 d ++ aF 0) 1 0 :: .arr cs 1 0 :: aH d) (s1),.box [.d y1,.d y2] :: .box [.d x0,.sl 3 0 0 0,.sl 4 0 0 0] :: .box [.d x1,.sl 5 0 0 k,.sl 6 0 0 z] :: .arr [] 0 0 :: .arr [] 0 0 :: .vec (aB 7 d ++ aF 0) 1 0 :: .arr cs 1 0 :: aH d) else gcO 1 m s (.box [.d y1,.d y2] :: .box [.d x0,.sl 3 0 0 0,.sl 4 0 0 0] :: .box [.d x1,.sl 5 0 0 k,.sl 6 0 0 z] :: .arr [] 0 0 :: .arr [] 0 0 :: .vec (aB 7 d ++ aF 0) 1 0 :: .arr cs 1 0 :: aH d)
  | .no => ([],[]):=by
 simp only [box]
 split
 ·rename_i hc
  have hb:=hc
  have hids:idsL (tidy m s) = [0,1,2]:=by exact hb
  obtain ⟨h,hh⟩:∃ h:H,O.box [.d y1,.d y2] :: .box [.d x0,.sl 3 0 0 0,.sl 4 0 0 0] :: .box [.d x1,.sl 5 0 0 k,.sl 6 0 0 z] :: .arr [] 0 0 :: .arr [] 0 0 :: .vec (aB 7 d ++ aF 0) 1 0 :: .arr cs 1 0 :: aH d = h:=⟨_,rfl⟩
  conv => lhs; rw [hh]
  have g0:h[0]? = some (.box [.d y1,.d y2]):=by rw [← hh]; rfl
  have g1:h[1]? = some (.box [.d x0,.sl 3 0 0 0,.sl 4 0 0 0]):=by rw [← hh]; rfl
  have g2:h[2]? = some (.box [.d x1,.sl 5 0 0 k,.sl 6 0 0 z]):=by rw [← hh]; rfl
  have g3:h[3]? = some (.arr [] 0 0):=by rw [← hh]; rfl
  have g4:h[4]? = some (.arr [] 0 0):=by rw [← hh]; rfl
  have g5:h[5]? = some (.vec (aB 7 d ++ aF 0) 1 0):=by rw [← hh]; rfl
  have g6:h[6]? = some (.arr cs 1 0):=by rw [← hh]; rfl
  have hD:h.drop 7 = aH d ++ []:=by rw [← hh]; exact (List.append_nil _).symm
  have gr:=mI 7 hD
  have k0:kids h (0) = []:=by simp [kids,g0,idsL,idsA]
  have k1:kids h (1) = [3,4]:=by simp [kids,g1,idsL,idsA]
  have k2:kids h (2) = [5,6]:=by simp [kids,g2,idsL,idsA]
  have k3:kids h (3) = []:=bZ g3
  have k4:kids h (4) = []:=bZ g4
  have k5:kids h (5) = List.range' 7 d.length:=by simp [kids,g5,bW,c9,eM,idsL,idsA]
  have leaf:=nE gr
  have hr:aC aE h [0,1,2] [] = [0,1,2,3,4,5] ++ ([6] ++ (List.range' 7 d.length ++ [])):=kP (by simp [k0,k1,k2,k3,k4,k5]) (by intro q hq; simp only [List.length_cons,List.length_nil] at hq; have:q = 0 ∨ q = 1 ∨ q = 2 ∨ q = 3 ∨ q = 4 ∨ q = 5:=(by omega); rcases this with rfl | rfl | rfl | rfl | rfl | rfl <;> simp [k0,k1,k2,k3,k4,k5]) leaf (by intro i hi; simp at hi; subst hi; exact ⟨_,_,_,by assumption⟩) (by intro i hi; simp at hi; rcases hi with rfl | rfl | rfl | rfl | rfl | rfl <;> exact ⟨_,by assumption,by simp⟩) (by simp <;> omega) (by intro i hi; simp at hi; omega) (by simp only [aE,List.length_cons,List.length_nil]; omega)
  generalize hord:[0,1,2,3,4,5] ++ ([6] ++ (List.range' 7 d.length ++ [])) = ord at hr
  have hA:ord = ([0,1,2,3,4,5] ++ [6]) ++ (List.range' 7 d.length ++ []):=by rw [← hord,List.append_assoc]
  have pk:∀ i j,ord[j]? = some i → aI ord i = some j:=fun i j h1 => fS (by rw [← hr]; exact cY aE h _ [] (by simp)) h1
  have p0:=pk (0) 0 (by rw [← hord]; rfl)
  have p1:=pk (1) 1 (by rw [← hord]; rfl)
  have p2:=pk (2) 2 (by rw [← hord]; rfl)
  have p3:=pk (3) 3 (by rw [← hord]; rfl)
  have p4:=pk (4) 4 (by rw [← hord]; rfl)
  have p5:=pk (5) 5 (by rw [← hord]; rfl)
  have p6:=pk (6) 6 (by rw [← hord]; rfl)
  have pr:=nG (C:=7) pk hA rfl
  obtain ⟨K,hK⟩:∃ K:H,O.box [.d y1,.d y2] :: .box [.d x0,.sl 3 0 0 0,.sl 4 0 0 0] :: .box [.d x1,.sl 5 0 0 k,.sl 6 0 0 z] :: .arr [] 0 0 :: .arr [] 0 0 :: .vec (aB 7 d ++ aF 0) 1 0 :: .arr cs 1 0 :: aH d = K:=⟨_,rfl⟩
  have hni:∀ f,aG f (aF 0) = aF 0:=fun _ => rfl
  have hpk:pack h ord = K:=by
   have hrf:aG (aI ord) (aB 7 d) = aB 7 d:=jD (c:=0) pr
   rw [pB hA gr,← hK]
   simp only [List.cons_append,List.nil_append,List.map_cons,List.map_nil,List.getD_eq_getElem?_getD,g0,g1,g2,g3,g4,g5,g6,Option.getD_some,mapO,aG,mapA,eX,hrf,hni,p0,p1,p2,p3,p4,p5,p6,List.append_nil]
  have hKD:K.drop 7 = aH d ++ []:=by rw [← hK]; exact (List.append_nil _).symm
  have hgr:=r6 hKD
  have hcm:eA 0 K = .box [.d y1,.d y2] :: .box [.d x0,.sl 3 0 0 0,.sl 4 0 0 0] :: .box [.d x1,.sl 5 0 0 k,.sl 6 0 0 z] :: .arr [] 0 0 :: .arr [] 0 0 :: .vec (aB 7 d ++ aF 0) 1 0 :: .arr cs 1 0 :: aH d:=by
   have hrf:aS 0 K (aB 7 d) = aB 7 d:=j3 hgr
   have hnc:∀ h:H,aS 0 h (aF 0) = aF 0:=fun _ => rfl
   have q3:bB K 3 = some 0:=by rw [← hK]; rfl
   have q4:bB K 4 = some 0:=by rw [← hK]; rfl
   have q5:bB K 5 = some 0:=by rw [← hK]; rfl
   have q6:bB K 6 = some 0:=by rw [← hK]; rfl
   unfold eA
   rw [j7]
   conv => lhs; arg 2; rw [← hK]
   simp only [List.map_cons,List.map_append,List.map_nil,dF,aS,bT,kE,iT,hrf,hnc,lA,q3,q4,q5,q6,Nat.not_lt_zero,if_false,if_true]
  subst hK
  rw [X3 hh hids,SK (ord:=ord) (by rw [hids]; exact hr),hpk,hcm]
  have hmp:aG (aI ord) (tidy m s) = tidy m s:=by
   apply j4
   rw [hids]
   intro i hi
   simp only [List.mem_cons,List.not_mem_nil,or_false] at hi
   rcases hi with rfl | rfl | rfl
   ·exact p0
   ·exact p1
   ·exact p2
  rw [hmp]
 ·rfl
theorem aKo {m:List Bool} {s:List A} {y1 y2 x0 x1:D} {k z g:Nat} {cr cs:List D} {d:List (List Int)} {p:H} (hl:d.length ≤ 4294967296):gc 1 m s (.box [.d y1,.d y2] :: .box [.d x0,.sl 4 0 0 0,.sl 5 0 0 0] :: .box [.d x1,.sl 6 0 0 k,.sl 7 0 0 z] :: .arr cr 1 g :: .arr [] 0 0 :: .arr [] 0 0 :: .vec (aB 8 d ++ aF 0) 1 0 :: .arr cs 1 0 :: (aH d ++ p)) = match box (tidy m s) with
  | .mk s1 => if idsL s1 = [0,1,2,3] then (aS 0 (.box [.d y1,.d y2] :: .box [.d x0,.sl 4 0 0 0,.sl 5 0 0 0] :: .box [.d x1,.sl 6 0 0 k,.sl 7 0 0 z] :: .arr cr 1 g :: .arr [] 0 0 :: .arr [] 0 0 :: .vec (aB 8 d ++ aF 0) 1 0 :: .arr cs 1 0 :: aH d) (s1),.box [.d y1,.d y2] :: .box [.d x0,.sl 4 0 0 0,.sl 5 0 0 0] :: .box [.d x1,.sl 6 0 0 k,.sl 7 0 0 z] :: .arr cr 1 0 :: .arr [] 0 0 :: .arr [] 0 0 :: .vec (aB 8 d ++ aF 0) 1 0 :: .arr cs 1 0 :: aH d) else gcO 1 m s (.box [.d y1,.d y2] :: .box [.d x0,.sl 4 0 0 0,.sl 5 0 0 0] :: .box [.d x1,.sl 6 0 0 k,.sl 7 0 0 z] :: .arr cr 1 g :: .arr [] 0 0 :: .arr [] 0 0 :: .vec (aB 8 d ++ aF 0) 1 0 :: .arr cs 1 0 :: (aH d ++ p))
  | .no => ([],[]):=by
 simp only [box]
 split
 ·rename_i hc
  have hb:=hc
  have hids:idsL (tidy m s) = [0,1,2,3]:=by exact hb
  obtain ⟨h,hh⟩:∃ h:H,O.box [.d y1,.d y2] :: .box [.d x0,.sl 4 0 0 0,.sl 5 0 0 0] :: .box [.d x1,.sl 6 0 0 k,.sl 7 0 0 z] :: .arr cr 1 g :: .arr [] 0 0 :: .arr [] 0 0 :: .vec (aB 8 d ++ aF 0) 1 0 :: .arr cs 1 0 :: (aH d ++ p) = h:=⟨_,rfl⟩
  conv => lhs; rw [hh]
  have g0:h[0]? = some (.box [.d y1,.d y2]):=by rw [← hh]; rfl
  have g1:h[1]? = some (.box [.d x0,.sl 4 0 0 0,.sl 5 0 0 0]):=by rw [← hh]; rfl
  have g2:h[2]? = some (.box [.d x1,.sl 6 0 0 k,.sl 7 0 0 z]):=by rw [← hh]; rfl
  have g3:h[3]? = some (.arr cr 1 g):=by rw [← hh]; rfl
  have g4:h[4]? = some (.arr [] 0 0):=by rw [← hh]; rfl
  have g5:h[5]? = some (.arr [] 0 0):=by rw [← hh]; rfl
  have g6:h[6]? = some (.vec (aB 8 d ++ aF 0) 1 0):=by rw [← hh]; rfl
  have g7:h[7]? = some (.arr cs 1 0):=by rw [← hh]; rfl
  have hD:h.drop 8 = aH d ++ p:=by rw [← hh]; rfl
  have gr:=mI 8 hD
  have k0:kids h (0) = []:=by simp [kids,g0,idsL,idsA]
  have k1:kids h (1) = [4,5]:=by simp [kids,g1,idsL,idsA]
  have k2:kids h (2) = [6,7]:=by simp [kids,g2,idsL,idsA]
  have k3:kids h (3) = []:=bZ g3
  have k4:kids h (4) = []:=bZ g4
  have k5:kids h (5) = []:=bZ g5
  have k6:kids h (6) = List.range' 8 d.length:=by simp [kids,g6,bW,c9,eM,idsL,idsA]
  have leaf:=nE gr
  have hr:aC aE h [0,1,2,3] [] = [0,1,2,3,4,5,6] ++ ([7] ++ (List.range' 8 d.length ++ [])):=kP (by simp [k0,k1,k2,k3,k4,k5,k6]) (by intro q hq; simp only [List.length_cons,List.length_nil] at hq; have:q = 0 ∨ q = 1 ∨ q = 2 ∨ q = 3 ∨ q = 4 ∨ q = 5 ∨ q = 6:=(by omega); rcases this with rfl | rfl | rfl | rfl | rfl | rfl | rfl <;> simp [k0,k1,k2,k3,k4,k5,k6]) leaf (by intro i hi; simp at hi; subst hi; exact ⟨_,_,_,by assumption⟩) (by intro i hi; simp at hi; rcases hi with rfl | rfl | rfl | rfl | rfl | rfl | rfl <;> exact ⟨_,by assumption,by simp⟩) (by simp <;> omega) (by intro i hi; simp at hi; omega) (by simp only [aE,List.length_cons,List.length_nil]; omega)
  generalize hord:[0,1,2,3,4,5,6] ++ ([7] ++ (List.range' 8 d.length ++ [])) = ord at hr
  have hA:ord = ([0,1,2,3,4,5,6] ++ [7]) ++ (List.range' 8 d.length ++ []):=by rw [← hord,List.append_assoc]
  have pk:∀ i j,ord[j]? = some i → aI ord i = some j:=fun i j h1 => fS (by rw [← hr]; exact cY aE h _ [] (by simp)) h1
  have p0:=pk (0) 0 (by rw [← hord]; rfl)
  have p1:=pk (1) 1 (by rw [← hord]; rfl)
  have p2:=pk (2) 2 (by rw [← hord]; rfl)
  have p3:=pk (3) 3 (by rw [← hord]; rfl)
  have p4:=pk (4) 4 (by rw [← hord]; rfl)
  have p5:=pk (5) 5 (by rw [← hord]; rfl)
  have p6:=pk (6) 6 (by rw [← hord]; rfl)
  have p7:=pk (7) 7 (by rw [← hord]; rfl)
  have pr:=nG (C:=8) pk hA rfl
  obtain ⟨K,hK⟩:∃ K:H,O.box [.d y1,.d y2] :: .box [.d x0,.sl 4 0 0 0,.sl 5 0 0 0] :: .box [.d x1,.sl 6 0 0 k,.sl 7 0 0 z] :: .arr cr 1 g :: .arr [] 0 0 :: .arr [] 0 0 :: .vec (aB 8 d ++ aF 0) 1 0 :: .arr cs 1 0 :: aH d = K:=⟨_,rfl⟩
  have hni:∀ f,aG f (aF 0) = aF 0:=fun _ => rfl
  have hpk:pack h ord = K:=by
   have hrf:aG (aI ord) (aB 8 d) = aB 8 d:=jD (c:=0) pr
   rw [pB hA gr,← hK]
   simp only [List.cons_append,List.nil_append,List.map_cons,List.map_nil,List.getD_eq_getElem?_getD,g0,g1,g2,g3,g4,g5,g6,g7,Option.getD_some,mapO,aG,mapA,eX,hrf,hni,p0,p1,p2,p3,p4,p5,p6,p7,List.append_nil]
  have hKD:K.drop 8 = aH d ++ []:=by rw [← hK]; exact (List.append_nil _).symm
  have hgr:=r6 hKD
  have hcm:eA 0 K = .box [.d y1,.d y2] :: .box [.d x0,.sl 4 0 0 0,.sl 5 0 0 0] :: .box [.d x1,.sl 6 0 0 k,.sl 7 0 0 z] :: .arr cr 1 0 :: .arr [] 0 0 :: .arr [] 0 0 :: .vec (aB 8 d ++ aF 0) 1 0 :: .arr cs 1 0 :: aH d:=by
   have hrf:aS 0 K (aB 8 d) = aB 8 d:=j3 hgr
   have hnc:∀ h:H,aS 0 h (aF 0) = aF 0:=fun _ => rfl
   have q3:bB K 3 = some g:=by rw [← hK]; rfl
   have q4:bB K 4 = some 0:=by rw [← hK]; rfl
   have q5:bB K 5 = some 0:=by rw [← hK]; rfl
   have q6:bB K 6 = some 0:=by rw [← hK]; rfl
   have q7:bB K 7 = some 0:=by rw [← hK]; rfl
   unfold eA
   rw [j7]
   conv => lhs; arg 2; rw [← hK]
   simp only [List.map_cons,List.map_append,List.map_nil,dF,aS,bT,kE,iT,hrf,hnc,lA,q3,q4,q5,q6,q7,Nat.not_lt_zero,if_false,if_true]
  subst hK
  rw [X3 hh hids,SK (ord:=ord) (by rw [hids]; exact hr),hpk,hcm]
  have hmp:aG (aI ord) (tidy m s) = tidy m s:=by
   apply j4
   rw [hids]
   intro i hi
   simp only [List.mem_cons,List.not_mem_nil,or_false] at hi
   rcases hi with rfl | rfl | rfl | rfl
   ·exact p0
   ·exact p1
   ·exact p2
   ·exact p3
  rw [hmp]
 ·rfl
theorem aIQ {m:List Bool} {s:List A} {y1 y2 x0 x1:D} {k z g:Nat} {cr cs:List D} {d:List (List Int)} (hl:d.length ≤ 4294967296):gc 1 m s (.box [.d y1,.d y2] :: .box [.d x0,.sl 4 0 0 0,.sl 5 0 0 0] :: .box [.d x1,.sl 6 0 0 k,.sl 7 0 0 z] :: .arr cr 1 g :: .arr [] 0 0 :: .arr [] 0 0 :: .vec (aB 8 d ++ aF 0) 1 0 :: .arr cs 1 0 :: aH d) = match box (tidy m s) with
  | .mk s1 => if idsL s1 = [0,1,2,3] then (aS 0 (.box [.d y1,.d y2] :: .box [.d x0,.sl 4 0 0 0,.sl 5 0 0 0] :: .box [.d x1,.sl 6 0 0 k,.sl 7 0 0 z] :: .arr cr 1 g :: .arr [] 0 0 :: .arr [] 0 0 :: .vec (aB 8 d ++ aF 0) 1 0 :: .arr cs 1 0 :: aH d) (s1),.box [.d y1,.d y2] :: .box [.d x0,.sl 4 0 0 0,.sl 5 0 0 0] :: .box [.d x1,.sl 6 0 0 k,.sl 7 0 0 z] :: .arr cr 1 0 :: .arr [] 0 0 :: .arr [] 0 0 :: .vec (aB 8 d ++ aF 0) 1 0 :: .arr cs 1 0 :: aH d) else gcO 1 m s (.box [.d y1,.d y2] :: .box [.d x0,.sl 4 0 0 0,.sl 5 0 0 0] :: .box [.d x1,.sl 6 0 0 k,.sl 7 0 0 z] :: .arr cr 1 g :: .arr [] 0 0 :: .arr [] 0 0 :: .vec (aB 8 d ++ aF 0) 1 0 :: .arr cs 1 0 :: aH d)
  | .no => ([],[]):=by
 simp only [box]
 split
 ·rename_i hc
  have hb:=hc
  have hids:idsL (tidy m s) = [0,1,2,3]:=by exact hb
  obtain ⟨h,hh⟩:∃ h:H,O.box [.d y1,.d y2] :: .box [.d x0,.sl 4 0 0 0,.sl 5 0 0 0] :: .box [.d x1,.sl 6 0 0 k,.sl 7 0 0 z] :: .arr cr 1 g :: .arr [] 0 0 :: .arr [] 0 0 :: .vec (aB 8 d ++ aF 0) 1 0 :: .arr cs 1 0 :: aH d = h:=⟨_,rfl⟩
  conv => lhs; rw [hh]
  have g0:h[0]? = some (.box [.d y1,.d y2]):=by rw [← hh]; rfl
  have g1:h[1]? = some (.box [.d x0,.sl 4 0 0 0,.sl 5 0 0 0]):=by rw [← hh]; rfl
  have g2:h[2]? = some (.box [.d x1,.sl 6 0 0 k,.sl 7 0 0 z]):=by rw [← hh]; rfl
  have g3:h[3]? = some (.arr cr 1 g):=by rw [← hh]; rfl
  have g4:h[4]? = some (.arr [] 0 0):=by rw [← hh]; rfl
  have g5:h[5]? = some (.arr [] 0 0):=by rw [← hh]; rfl
  have g6:h[6]? = some (.vec (aB 8 d ++ aF 0) 1 0):=by rw [← hh]; rfl
  have g7:h[7]? = some (.arr cs 1 0):=by rw [← hh]; rfl
  have hD:h.drop 8 = aH d ++ []:=by rw [← hh]; exact (List.append_nil _).symm
  have gr:=mI 8 hD
  have k0:kids h (0) = []:=by simp [kids,g0,idsL,idsA]
  have k1:kids h (1) = [4,5]:=by simp [kids,g1,idsL,idsA]
  have k2:kids h (2) = [6,7]:=by simp [kids,g2,idsL,idsA]
  have k3:kids h (3) = []:=bZ g3
  have k4:kids h (4) = []:=bZ g4
  have k5:kids h (5) = []:=bZ g5
  have k6:kids h (6) = List.range' 8 d.length:=by simp [kids,g6,bW,c9,eM,idsL,idsA]
  have leaf:=nE gr
  have hr:aC aE h [0,1,2,3] [] = [0,1,2,3,4,5,6] ++ ([7] ++ (List.range' 8 d.length ++ [])):=kP (by simp [k0,k1,k2,k3,k4,k5,k6]) (by intro q hq; simp only [List.length_cons,List.length_nil] at hq; have:q = 0 ∨ q = 1 ∨ q = 2 ∨ q = 3 ∨ q = 4 ∨ q = 5 ∨ q = 6:=(by omega); rcases this with rfl | rfl | rfl | rfl | rfl | rfl | rfl <;> simp [k0,k1,k2,k3,k4,k5,k6]) leaf (by intro i hi; simp at hi; subst hi; exact ⟨_,_,_,by assumption⟩) (by intro i hi; simp at hi; rcases hi with rfl | rfl | rfl | rfl | rfl | rfl | rfl <;> exact ⟨_,by assumption,by simp⟩) (by simp <;> omega) (by intro i hi; simp at hi; omega) (by simp only [aE,List.length_cons,List.length_nil]; omega)
  generalize hord:[0,1,2,3,4,5,6] ++ ([7] ++ (List.range' 8 d.length ++ [])) = ord at hr
  have hA:ord = ([0,1,2,3,4,5,6] ++ [7]) ++ (List.range' 8 d.length ++ []):=by rw [← hord,List.append_assoc]
  have pk:∀ i j,ord[j]? = some i → aI ord i = some j:=fun i j h1 => fS (by rw [← hr]; exact cY aE h _ [] (by simp)) h1
  have p0:=pk (0) 0 (by rw [← hord]; rfl)
  have p1:=pk (1) 1 (by rw [← hord]; rfl)
  have p2:=pk (2) 2 (by rw [← hord]; rfl)
  have p3:=pk (3) 3 (by rw [← hord]; rfl)
  have p4:=pk (4) 4 (by rw [← hord]; rfl)
  have p5:=pk (5) 5 (by rw [← hord]; rfl)
  have p6:=pk (6) 6 (by rw [← hord]; rfl)
  have p7:=pk (7) 7 (by rw [← hord]; rfl)
  have pr:=nG (C:=8) pk hA rfl
  obtain ⟨K,hK⟩:∃ K:H,O.box [.d y1,.d y2] :: .box [.d x0,.sl 4 0 0 0,.sl 5 0 0 0] :: .box [.d x1,.sl 6 0 0 k,.sl 7 0 0 z] :: .arr cr 1 g :: .arr [] 0 0 :: .arr [] 0 0 :: .vec (aB 8 d ++ aF 0) 1 0 :: .arr cs 1 0 :: aH d = K:=⟨_,rfl⟩
  have hni:∀ f,aG f (aF 0) = aF 0:=fun _ => rfl
  have hpk:pack h ord = K:=by
   have hrf:aG (aI ord) (aB 8 d) = aB 8 d:=jD (c:=0) pr
   rw [pB hA gr,← hK]
   simp only [List.cons_append,List.nil_append,List.map_cons,List.map_nil,List.getD_eq_getElem?_getD,g0,g1,g2,g3,g4,g5,g6,g7,Option.getD_some,mapO,aG,mapA,eX,hrf,hni,p0,p1,p2,p3,p4,p5,p6,p7,List.append_nil]
  have hKD:K.drop 8 = aH d ++ []:=by rw [← hK]; exact (List.append_nil _).symm
  have hgr:=r6 hKD
  have hcm:eA 0 K = .box [.d y1,.d y2] :: .box [.d x0,.sl 4 0 0 0,.sl 5 0 0 0] :: .box [.d x1,.sl 6 0 0 k,.sl 7 0 0 z] :: .arr cr 1 0 :: .arr [] 0 0 :: .arr [] 0 0 :: .vec (aB 8 d ++ aF 0) 1 0 :: .arr cs 1 0 :: aH d:=by
   have hrf:aS 0 K (aB 8 d) = aB 8 d:=j3 hgr
   have hnc:∀ h:H,aS 0 h (aF 0) = aF 0:=fun _ => rfl
   have q3:bB K 3 = some g:=by rw [← hK]; rfl
   have q4:bB K 4 = some 0:=by rw [← hK]; rfl
   have q5:bB K 5 = some 0:=by rw [← hK]; rfl
   have q6:bB K 6 = some 0:=by rw [← hK]; rfl
   have q7:bB K 7 = some 0:=by rw [← hK]; rfl
   unfold eA
   rw [j7]
   conv => lhs; arg 2; rw [← hK]
   simp only [List.map_cons,List.map_append,List.map_nil,dF,aS,bT,kE,iT,hrf,hnc,lA,q3,q4,q5,q6,q7,Nat.not_lt_zero,if_false,if_true]
  subst hK
  rw [X3 hh hids,SK (ord:=ord) (by rw [hids]; exact hr),hpk,hcm]
  have hmp:aG (aI ord) (tidy m s) = tidy m s:=by
   apply j4
   rw [hids]
   intro i hi
   simp only [List.mem_cons,List.not_mem_nil,or_false] at hi
   rcases hi with rfl | rfl | rfl | rfl
   ·exact p0
   ·exact p1
   ·exact p2
   ·exact p3
  rw [hmp]
 ·rfl
def OO (n:Nat) (ids:List Nat):Bool:=decide (ids = [0,1,2,n + 7])
theorem aIb {n:Nat} {ke0:Nat} (he0:ke0 = n + 7):OO n [0,1,2,ke0] = true:=by subst he0; simp [OO]
def nM (n i:Nat):Option Nat:=if i = 0 then some 0 else if i = 1 then some 1 else if i = 2 then some 2 else if i = n + 7 then some 3 else none
theorem W0 {n:Nat}:nM n 0 = some (0):=by unfold nM; repeat (first | rfl | rw [if_pos rfl] | rw [if_neg (by omega)])
theorem WM {n:Nat}:nM n 1 = some (1):=by unfold nM; repeat (first | rfl | rw [if_pos rfl] | rw [if_neg (by omega)])
theorem XI {n:Nat}:nM n 2 = some (2):=by unfold nM; repeat (first | rfl | rw [if_pos rfl] | rw [if_neg (by omega)])
theorem SY {n k:Nat} (h:k = n + 7):nM n k = some (3):=by subst h; unfold nM; repeat (first | rfl | rw [if_pos rfl] | rw [if_neg (by omega)])
theorem aSG {m:List Bool} {s:List A} {y1 y2 x0 x1:D} {k z:Nat} {cs:List D} {d:List (List Int)} {p:H} (hl:d.length ≤ 4294967296):gc 1 m s (.box [.d y1,.d y2] :: .box [.d x0,.sl 3 0 0 0,.sl 4 0 0 0] :: .box [.d x1,.sl 5 0 0 k,.sl 6 0 0 z] :: .arr [] 0 0 :: .arr [] 0 0 :: .vec (aB 7 d ++ aF 0) 1 0 :: .arr cs 1 0 :: (aH d ++ .arr [] 1 0 :: p)) = match box (tidy m s) with
  | .mk s1 => if OO d.length (idsL s1) = true then (aS 0 (.box [.d y1,.d y2] :: .box [.d x0,.sl 4 0 0 0,.sl 5 0 0 0] :: .box [.d x1,.sl 6 0 0 k,.sl 7 0 0 z] :: .arr [] 1 0 :: .arr [] 0 0 :: .arr [] 0 0 :: .vec (aB 8 d ++ aF 0) 1 0 :: .arr cs 1 0 :: aH d) (aG (nM d.length) s1),.box [.d y1,.d y2] :: .box [.d x0,.sl 4 0 0 0,.sl 5 0 0 0] :: .box [.d x1,.sl 6 0 0 k,.sl 7 0 0 z] :: .arr [] 1 0 :: .arr [] 0 0 :: .arr [] 0 0 :: .vec (aB 8 d ++ aF 0) 1 0 :: .arr cs 1 0 :: aH d) else gcO 1 m s (.box [.d y1,.d y2] :: .box [.d x0,.sl 3 0 0 0,.sl 4 0 0 0] :: .box [.d x1,.sl 5 0 0 k,.sl 6 0 0 z] :: .arr [] 0 0 :: .arr [] 0 0 :: .vec (aB 7 d ++ aF 0) 1 0 :: .arr cs 1 0 :: (aH d ++ .arr [] 1 0 :: p))
  | .no => ([],[]):=by
 simp only [box]
 split
 ·rename_i hc
  have hb:=hc
  have hids:idsL (tidy m s) = [0,1,2,d.length + 7]:=by simpa [OO] using hb
  obtain ⟨h,hh⟩:∃ h:H,O.box [.d y1,.d y2] :: .box [.d x0,.sl 3 0 0 0,.sl 4 0 0 0] :: .box [.d x1,.sl 5 0 0 k,.sl 6 0 0 z] :: .arr [] 0 0 :: .arr [] 0 0 :: .vec (aB 7 d ++ aF 0) 1 0 :: .arr cs 1 0 :: (aH d ++ .arr [] 1 0 :: p) = h:=⟨_,rfl⟩
  conv => lhs; rw [hh]
  have g0:h[0]? = some (.box [.d y1,.d y2]):=by rw [← hh]; rfl
  have g1:h[1]? = some (.box [.d x0,.sl 3 0 0 0,.sl 4 0 0 0]):=by rw [← hh]; rfl
  have g2:h[2]? = some (.box [.d x1,.sl 5 0 0 k,.sl 6 0 0 z]):=by rw [← hh]; rfl
  have g3:h[3]? = some (.arr [] 0 0):=by rw [← hh]; rfl
  have g4:h[4]? = some (.arr [] 0 0):=by rw [← hh]; rfl
  have g5:h[5]? = some (.vec (aB 7 d ++ aF 0) 1 0):=by rw [← hh]; rfl
  have g6:h[6]? = some (.arr cs 1 0):=by rw [← hh]; rfl
  have hD:h.drop 7 = aH d ++ (.arr [] 1 0 :: p):=by rw [← hh]; rfl
  have gr:=mI 7 hD
  have ge0:h[d.length + 7]? = some (.arr [] 1 0):=zX 7 0 hD rfl (by omega)
  have k0:kids h (0) = []:=by simp [kids,g0,idsL,idsA]
  have k1:kids h (1) = [3,4]:=by simp [kids,g1,idsL,idsA]
  have k2:kids h (2) = [5,6]:=by simp [kids,g2,idsL,idsA]
  have ke0:kids h (d.length + 7) = []:=bZ ge0
  have k3:kids h (3) = []:=bZ g3
  have k4:kids h (4) = []:=bZ g4
  have k5:kids h (5) = List.range' 7 d.length:=by simp [kids,g5,bW,c9,eM,idsL,idsA]
  have leaf:=nE gr
  have hr:aC aE h [0,1,2,d.length + 7] [] = [0,1,2,d.length + 7,3,4,5] ++ ([6] ++ (List.range' 7 d.length ++ [])):=kP (by simp [k0,k1,k2,ke0,k3,k4,k5]) (by intro q hq; simp only [List.length_cons,List.length_nil] at hq; have:q = 0 ∨ q = 1 ∨ q = 2 ∨ q = 3 ∨ q = 4 ∨ q = 5 ∨ q = 6:=(by omega); rcases this with rfl | rfl | rfl | rfl | rfl | rfl | rfl <;> simp [k0,k1,k2,ke0,k3,k4,k5]) leaf (by intro i hi; simp at hi; subst hi; exact ⟨_,_,_,by assumption⟩) (by intro i hi; simp at hi; rcases hi with rfl | rfl | rfl | rfl | rfl | rfl | rfl <;> exact ⟨_,by assumption,by simp⟩) (by simp <;> omega) (by intro i hi; simp at hi; omega) (by simp only [aE,List.length_cons,List.length_nil]; omega)
  generalize hord:[0,1,2,d.length + 7,3,4,5] ++ ([6] ++ (List.range' 7 d.length ++ [])) = ord at hr
  have hA:ord = ([0,1,2,d.length + 7,3,4,5] ++ [6]) ++ (List.range' 7 d.length ++ []):=by rw [← hord,List.append_assoc]
  have pk:∀ i j,ord[j]? = some i → aI ord i = some j:=fun i j h1 => fS (by rw [← hr]; exact cY aE h _ [] (by simp)) h1
  have p0:=pk (0) 0 (by rw [← hord]; rfl)
  have p1:=pk (1) 1 (by rw [← hord]; rfl)
  have p2:=pk (2) 2 (by rw [← hord]; rfl)
  have pe0:=pk (d.length + 7) 3 (by rw [← hord]; rfl)
  have p3:=pk (3) 4 (by rw [← hord]; rfl)
  have p4:=pk (4) 5 (by rw [← hord]; rfl)
  have p5:=pk (5) 6 (by rw [← hord]; rfl)
  have p6:=pk (6) 7 (by rw [← hord]; rfl)
  have pr:=nG (C:=8) pk hA rfl
  obtain ⟨K,hK⟩:∃ K:H,O.box [.d y1,.d y2] :: .box [.d x0,.sl 4 0 0 0,.sl 5 0 0 0] :: .box [.d x1,.sl 6 0 0 k,.sl 7 0 0 z] :: .arr [] 1 0 :: .arr [] 0 0 :: .arr [] 0 0 :: .vec (aB 8 d ++ aF 0) 1 0 :: .arr cs 1 0 :: aH d = K:=⟨_,rfl⟩
  have hni:∀ f,aG f (aF 0) = aF 0:=fun _ => rfl
  have hpk:pack h ord = K:=by
   have hrf:aG (aI ord) (aB 7 d) = aB 8 d:=jD (c:=0) pr
   rw [pB hA gr,← hK]
   simp only [List.cons_append,List.nil_append,List.map_cons,List.map_nil,List.getD_eq_getElem?_getD,g0,g1,g2,ge0,g3,g4,g5,g6,Option.getD_some,mapO,aG,mapA,eX,hrf,hni,p0,p1,p2,pe0,p3,p4,p5,p6,List.append_nil]
  have hKD:K.drop 8 = aH d ++ []:=by rw [← hK]; exact (List.append_nil _).symm
  have hgr:=r6 hKD
  have hcm:eA 0 K = .box [.d y1,.d y2] :: .box [.d x0,.sl 4 0 0 0,.sl 5 0 0 0] :: .box [.d x1,.sl 6 0 0 k,.sl 7 0 0 z] :: .arr [] 1 0 :: .arr [] 0 0 :: .arr [] 0 0 :: .vec (aB 8 d ++ aF 0) 1 0 :: .arr cs 1 0 :: aH d:=by
   have hrf:aS 0 K (aB 8 d) = aB 8 d:=j3 hgr
   have hnc:∀ h:H,aS 0 h (aF 0) = aF 0:=fun _ => rfl
   have q3:bB K 3 = some 0:=by rw [← hK]; rfl
   have q4:bB K 4 = some 0:=by rw [← hK]; rfl
   have q5:bB K 5 = some 0:=by rw [← hK]; rfl
   have q6:bB K 6 = some 0:=by rw [← hK]; rfl
   have q7:bB K 7 = some 0:=by rw [← hK]; rfl
   unfold eA
   rw [j7]
   conv => lhs; arg 2; rw [← hK]
   simp only [List.map_cons,List.map_append,List.map_nil,dF,aS,bT,kE,iT,hrf,hnc,lA,q3,q4,q5,q6,q7,Nat.not_lt_zero,if_false,if_true]
  subst hK
  rw [X3 hh hids,SK (ord:=ord) (by rw [hids]; exact hr),hpk,hcm]
  have hmp:aG (aI ord) (tidy m s) = aG (nM d.length) (tidy m s):=by
   apply o7
   rw [hids]
   intro i hi
   simp only [List.mem_cons,List.not_mem_nil,or_false] at hi
   rcases hi with rfl | rfl | rfl | rfl
   ·rw [p0,W0]
   ·rw [p1,WM]
   ·rw [p2,XI]
   ·rw [pe0,SY rfl]
  rw [hmp]
 ·rfl
def zU (n:Nat):List Nat:=[0,5,6] ++ (List.range' 7 n ++ [])
def IU (n i:Nat):Option Nat:=if i = 0 then some 0 else if i = 5 then some 1 else if i = 6 then some 2 else none
theorem aFX {n:Nat}:IU n 5 = some (1):=by unfold IU; repeat (first | rfl | rw [if_pos rfl] | rw [if_neg (by omega)])
theorem aGb {n:Nat}:IU n 6 = some (2):=by unfold IU; repeat (first | rfl | rw [if_pos rfl] | rw [if_neg (by omega)])
theorem aMk {y1 y2:D} {x0 x1 o3 o4:O} {cs:List D} {d:List (List Int)} (hl:d.length ≤ 4294967296) {ids:List Nat}:fK 1 (.box [.d y1,.d y2] :: x0 :: x1 :: o3 :: o4 :: .vec (aB 7 d ++ aF 0) 1 0 :: .arr cs 1 0 :: aH d) ids = if ids = [5,6] then zU d.length else aQS 1 (.box [.d y1,.d y2] :: x0 :: x1 :: o3 :: o4 :: .vec (aB 7 d ++ aF 0) 1 0 :: .arr cs 1 0 :: aH d) ids:=by
 split
 ·rename_i hc
  subst hc
  rw [aIk]
  obtain ⟨h,hh⟩:∃ h:H,O.box [.d y1,.d y2] :: x0 :: x1 :: o3 :: o4 :: .vec (aB 7 d ++ aF 0) 1 0 :: .arr cs 1 0 :: aH d = h:=⟨_,rfl⟩
  conv => lhs; rw [hh]
  have g0:h[0]? = some (.box [.d y1,.d y2]):=by rw [← hh]; rfl
  have g5:h[5]? = some (.vec (aB 7 d ++ aF 0) 1 0):=by rw [← hh]; rfl
  have g6:h[6]? = some (.arr cs 1 0):=by rw [← hh]; rfl
  have hD:h.drop 7 = aH d ++ []:=by rw [← hh]; exact (List.append_nil _).symm
  have gr:=mI 7 hD
  have k0:kids h (0) = []:=by simp [kids,g0,idsL,idsA]
  have k5:kids h (5) = List.range' 7 d.length:=by simp [kids,g5,bW,c9,eM,idsL,idsA]
  have leaf:=nE gr
  have hr:aC (aE + 1) h [0,5,6] [] = [0,5] ++ ([6] ++ (List.range' 7 d.length ++ [])):=kP (by simp [k0,k5]) (by intro q hq; simp only [List.length_cons,List.length_nil] at hq; have:q = 0 ∨ q = 1:=(by omega); rcases this with rfl | rfl <;> simp [k0,k5]) leaf (by intro i hi; simp at hi; subst hi; exact ⟨_,_,_,by assumption⟩) (by intro i hi; simp at hi; rcases hi with rfl | rfl <;> exact ⟨_,by assumption,by simp⟩) (by simp <;> omega) (by intro i hi; simp at hi; omega) (by simp only [aE,List.length_cons,List.length_nil]; omega)
  generalize hord:[0,5] ++ ([6] ++ (List.range' 7 d.length ++ [])) = ord at hr
  rw [hr,← hord]
  rfl
 ·rfl
theorem aOk {y1 y2:D} {x0 x1 o3 o4:O} {cs:List D} {d:List (List Int)} (hl:d.length ≤ 4294967296) {s:List A}:trim 1 (.box [.d y1,.d y2] :: x0 :: x1 :: o3 :: o4 :: .vec (aB 7 d ++ aF 0) 1 0 :: .arr cs 1 0 :: aH d) (zU d.length) s = if idsL s = [5,6] ∧ z0As s = true then (aG (IU d.length) s,.box [.d y1,.d y2] :: .vec (aB 3 d ++ aF 0) 1 0 :: .arr cs 1 0 :: aH d) else aQO 1 (.box [.d y1,.d y2] :: x0 :: x1 :: o3 :: o4 :: .vec (aB 7 d ++ aF 0) 1 0 :: .arr cs 1 0 :: aH d) (zU d.length) s:=by
 split
 ·rename_i hc
  obtain ⟨hids,hz⟩:=hc
  rw [show zU d.length = 0 :: (zU d.length).tail from rfl,aDN,show (0 :: (zU d.length).tail) = zU d.length from rfl]
  obtain ⟨h,hh⟩:∃ h:H,O.box [.d y1,.d y2] :: x0 :: x1 :: o3 :: o4 :: .vec (aB 7 d ++ aF 0) 1 0 :: .arr cs 1 0 :: aH d = h:=⟨_,rfl⟩
  conv => lhs; rw [hh]
  have g0:h[0]? = some (.box [.d y1,.d y2]):=by rw [← hh]; rfl
  have g5:h[5]? = some (.vec (aB 7 d ++ aF 0) 1 0):=by rw [← hh]; rfl
  have g6:h[6]? = some (.arr cs 1 0):=by rw [← hh]; rfl
  have hD:h.drop 7 = aH d ++ []:=by rw [← hh]; exact (List.append_nil _).symm
  have gr:=mI 7 hD
  have k0:kids h (0) = []:=by simp [kids,g0,idsL,idsA]
  have k5:kids h (5) = List.range' 7 d.length:=by simp [kids,g5,bW,c9,eM,idsL,idsA]
  have leaf:=nE gr
  have hr:aC aE h [0,5,6] [] = [0,5] ++ ([6] ++ (List.range' 7 d.length ++ [])):=kP (by simp [k0,k5]) (by intro q hq; simp only [List.length_cons,List.length_nil] at hq; have:q = 0 ∨ q = 1:=(by omega); rcases this with rfl | rfl <;> simp [k0,k5]) leaf (by intro i hi; simp at hi; subst hi; exact ⟨_,_,_,by assumption⟩) (by intro i hi; simp at hi; rcases hi with rfl | rfl <;> exact ⟨_,by assumption,by simp⟩) (by simp <;> omega) (by intro i hi; simp at hi; omega) (by simp only [aE,List.length_cons,List.length_nil]; omega)
  generalize hord:[0,5] ++ ([6] ++ (List.range' 7 d.length ++ [])) = ord at hr
  have hA:ord = ([0,5] ++ [6]) ++ (List.range' 7 d.length ++ []):=by rw [← hord,List.append_assoc]
  have pk:∀ i j,ord[j]? = some i → aI ord i = some j:=fun i j h1 => fS (by rw [← hr]; exact cY aE h _ [] (by simp)) h1
  have p0:=pk (0) 0 (by rw [← hord]; rfl)
  have p5:=pk (5) 1 (by rw [← hord]; rfl)
  have p6:=pk (6) 2 (by rw [← hord]; rfl)
  have pr:=nG (C:=3) pk hA rfl
  obtain ⟨K,hK⟩:∃ K:H,O.box [.d y1,.d y2] :: .vec (aB 3 d ++ aF 0) 1 0 :: .arr cs 1 0 :: aH d = K:=⟨_,rfl⟩
  have hni:∀ f,aG f (aF 0) = aF 0:=fun _ => rfl
  have hpk:pack h ord = K:=by
   have hrf:aG (aI ord) (aB 7 d) = aB 3 d:=jD (c:=0) pr
   rw [pB hA gr,← hK]
   simp only [List.cons_append,List.nil_append,List.map_cons,List.map_nil,List.getD_eq_getElem?_getD,g0,g5,g6,Option.getD_some,mapO,aG,mapA,eX,hrf,hni,p0,p5,p6,List.append_nil]
  have hKD:K.drop 3 = aH d ++ []:=by rw [← hK]; exact (List.append_nil _).symm
  have hgr:=r6 hKD
  have hcm:eA 0 K = .box [.d y1,.d y2] :: .vec (aB 3 d ++ aF 0) 1 0 :: .arr cs 1 0 :: aH d:=by
   have hrf:aS 0 K (aB 3 d) = aB 3 d:=j3 hgr
   have hnc:∀ h:H,aS 0 h (aF 0) = aF 0:=fun _ => rfl
   have q1:bB K 1 = some 0:=by rw [← hK]; rfl
   have q2:bB K 2 = some 0:=by rw [← hK]; rfl
   unfold eA
   rw [j7]
   conv => lhs; arg 2; rw [← hK]
   simp only [List.map_cons,List.map_append,List.map_nil,dF,aS,bT,kE,iT,hrf,hnc,lA,q1,q2,Nat.not_lt_zero,if_false,if_true]
  subst hK
  have hoo:zU d.length = ord:=by rw [← hord]; rfl
  unfold trim
  rw [hoo,hpk,hcm]
  have hz2:aS 0 (O.box [.d y1,.d y2] :: .vec (aB 3 d ++ aF 0) 1 0 :: .arr cs 1 0 :: aH d) (aG (aI ord) s) = aG (aI ord) s:=by
   exact oU (JM (by simp [z0O,z0As,z0A,D8,zO,zP,KE])) _ (A6 _ hz)
  have hmp:aG (aI ord) s = aG (IU d.length) s:=by
   apply o7
   rw [hids]
   intro i hi
   simp only [List.mem_cons,List.not_mem_nil,or_false] at hi
   rcases hi with rfl | rfl
   ·rw [p5,aFX]
   ·rw [p6,aGb]
  rw [hz2,hmp]
 ·rfl
theorem aSU {m:List Bool} {s:List A} {a1 a2 a3 x0 x1:D} {k z:Nat} {r:List Int} {cs:List D} {d:List (List Int)} {p:H} (hl:d.length ≤ 4294967296):gc 0 m s (.box [.d a1,.d a2,.d a3] :: .box [.d x0,.sl 3 0 0 0,.sl 4 0 0 0] :: .box [.d x1,.sl 5 1 0 k,.sl 6 0 0 z] :: .arr [] 0 0 :: .arr [] 0 0 :: .vec (aB 7 d ++ [.sl (d.length + 7) 1 0 r.length]) 1 1 :: .arr cs 1 0 :: (aH d ++ .arr (ints r) 1 1 :: p)) = match box (tidy m s) with
  | .mk s1 => if idsL s1 = [0,1,2] then (aS 0 (.box [.d a1,.d a2,.d a3] :: .box [.d x0,.sl 3 0 0 0,.sl 4 0 0 0] :: .box [.d x1,.sl 5 1 0 k,.sl 6 0 0 z] :: .arr [] 0 0 :: .arr [] 0 0 :: .vec (aB 7 d ++ [.sl (d.length + 7) 1 0 r.length]) 1 1 :: .arr cs 1 0 :: (aH d ++ [.arr (ints r) 1 1])) (s1),.box [.d a1,.d a2,.d a3] :: .box [.d x0,.sl 3 0 0 0,.sl 4 0 0 0] :: .box [.d x1,.sl 5 0 0 k,.sl 6 0 0 z] :: .arr [] 0 0 :: .arr [] 0 0 :: .vec (aB 7 d ++ [.sl (d.length + 7) 0 0 r.length]) 1 0 :: .arr cs 1 0 :: (aH d ++ [.arr (ints r) 1 0])) else gcO 0 m s (.box [.d a1,.d a2,.d a3] :: .box [.d x0,.sl 3 0 0 0,.sl 4 0 0 0] :: .box [.d x1,.sl 5 1 0 k,.sl 6 0 0 z] :: .arr [] 0 0 :: .arr [] 0 0 :: .vec (aB 7 d ++ [.sl (d.length + 7) 1 0 r.length]) 1 1 :: .arr cs 1 0 :: (aH d ++ .arr (ints r) 1 1 :: p))
  | .no => ([],[]):=by
 simp only [box]
 split
 ·rename_i hc
  have hb:=hc
  have hids:idsL (tidy m s) = [0,1,2]:=by exact hb
  obtain ⟨h,hh⟩:∃ h:H,O.box [.d a1,.d a2,.d a3] :: .box [.d x0,.sl 3 0 0 0,.sl 4 0 0 0] :: .box [.d x1,.sl 5 1 0 k,.sl 6 0 0 z] :: .arr [] 0 0 :: .arr [] 0 0 :: .vec (aB 7 d ++ [.sl (d.length + 7) 1 0 r.length]) 1 1 :: .arr cs 1 0 :: (aH d ++ .arr (ints r) 1 1 :: p) = h:=⟨_,rfl⟩
  conv => lhs; rw [hh]
  have g0:h[0]? = some (.box [.d a1,.d a2,.d a3]):=by rw [← hh]; rfl
  have g1:h[1]? = some (.box [.d x0,.sl 3 0 0 0,.sl 4 0 0 0]):=by rw [← hh]; rfl
  have g2:h[2]? = some (.box [.d x1,.sl 5 1 0 k,.sl 6 0 0 z]):=by rw [← hh]; rfl
  have g3:h[3]? = some (.arr [] 0 0):=by rw [← hh]; rfl
  have g4:h[4]? = some (.arr [] 0 0):=by rw [← hh]; rfl
  have g5:h[5]? = some (.vec (aB 7 d ++ [.sl (d.length + 7) 1 0 r.length]) 1 1):=by rw [← hh]; rfl
  have g6:h[6]? = some (.arr cs 1 0):=by rw [← hh]; rfl
  have hD:h.drop 7 = aH d ++ (.arr (ints r) 1 1 :: p):=by rw [← hh]; rfl
  have gr:=mI 7 hD
  have ge0:h[d.length + 7]? = some (.arr (ints r) 1 1):=zX 7 0 hD rfl (by omega)
  have k0:kids h (0) = []:=by simp [kids,g0,idsL,idsA]
  have k1:kids h (1) = [3,4]:=by simp [kids,g1,idsL,idsA]
  have k2:kids h (2) = [5,6]:=by simp [kids,g2,idsL,idsA]
  have k3:kids h (3) = []:=bZ g3
  have k4:kids h (4) = []:=bZ g4
  have k5:kids h (5) = List.range' 7 d.length ++ [d.length + 7]:=by simp [kids,g5,bW,c9,eM,idsL,idsA]
  have leaf:=nE gr
  have hr:aC aE h [0,1,2] [] = [0,1,2,3,4,5] ++ ([6] ++ (List.range' 7 d.length ++ [d.length + 7])):=kP (by simp [k0,k1,k2,k3,k4,k5]) (by intro q hq; simp only [List.length_cons,List.length_nil] at hq; have:q = 0 ∨ q = 1 ∨ q = 2 ∨ q = 3 ∨ q = 4 ∨ q = 5:=(by omega); rcases this with rfl | rfl | rfl | rfl | rfl | rfl <;> simp [k0,k1,k2,k3,k4,k5]) leaf (by intro i hi; simp at hi; rcases hi with rfl | rfl <;> exact ⟨_,_,_,by assumption⟩) (by intro i hi; simp at hi; rcases hi with rfl | rfl | rfl | rfl | rfl | rfl <;> exact ⟨_,by assumption,by simp⟩) (by simp <;> omega) (by intro i hi; simp at hi; omega) (by simp only [aE,List.length_cons,List.length_nil]; omega)
  generalize hord:[0,1,2,3,4,5] ++ ([6] ++ (List.range' 7 d.length ++ [d.length + 7])) = ord at hr
  have hA:ord = ([0,1,2,3,4,5] ++ [6]) ++ (List.range' 7 d.length ++ [d.length + 7]):=by rw [← hord,List.append_assoc]
  have pk:∀ i j,ord[j]? = some i → aI ord i = some j:=fun i j h1 => fS (by rw [← hr]; exact cY aE h _ [] (by simp)) h1
  have p0:=pk (0) 0 (by rw [← hord]; rfl)
  have p1:=pk (1) 1 (by rw [← hord]; rfl)
  have p2:=pk (2) 2 (by rw [← hord]; rfl)
  have p3:=pk (3) 3 (by rw [← hord]; rfl)
  have p4:=pk (4) 4 (by rw [← hord]; rfl)
  have p5:=pk (5) 5 (by rw [← hord]; rfl)
  have p6:=pk (6) 6 (by rw [← hord]; rfl)
  have pr:=nG (C:=7) pk hA rfl
  have pe0:=XO (C:=7) pk hA rfl 0 (i:=d.length + 7) (j:=d.length + 7) rfl (by omega)
  obtain ⟨K,hK⟩:∃ K:H,O.box [.d a1,.d a2,.d a3] :: .box [.d x0,.sl 3 0 0 0,.sl 4 0 0 0] :: .box [.d x1,.sl 5 1 0 k,.sl 6 0 0 z] :: .arr [] 0 0 :: .arr [] 0 0 :: .vec (aB 7 d ++ [.sl (d.length + 7) 1 0 r.length]) 1 1 :: .arr cs 1 0 :: (aH d ++ [.arr (ints r) 1 1]) = K:=⟨_,rfl⟩
  have hni:∀ f,aG f (aF 0) = aF 0:=fun _ => rfl
  have hpk:pack h ord = K:=by
   have hrf:aG (aI ord) (aB 7 d) = aB 7 d:=jD (c:=0) pr
   rw [pB hA gr,← hK]
   simp only [List.cons_append,List.nil_append,List.map_cons,List.map_nil,List.getD_eq_getElem?_getD,g0,g1,g2,g3,g4,g5,g6,ge0,Option.getD_some,mapO,aG,mapA,eX,hrf,hni,p0,p1,p2,p3,p4,p5,p6,pe0,List.append_nil]
  have hKD:K.drop 7 = aH d ++ [.arr (ints r) 1 1]:=by rw [← hK]; rfl
  have hgr:=r6 hKD
  have hge0:bB K (d.length + 7) = some 1:=by simp only [bB,zX 7 0 hKD rfl (j:=d.length + 7) (by omega)]
  have hcm:eA 0 K = .box [.d a1,.d a2,.d a3] :: .box [.d x0,.sl 3 0 0 0,.sl 4 0 0 0] :: .box [.d x1,.sl 5 0 0 k,.sl 6 0 0 z] :: .arr [] 0 0 :: .arr [] 0 0 :: .vec (aB 7 d ++ [.sl (d.length + 7) 0 0 r.length]) 1 0 :: .arr cs 1 0 :: (aH d ++ [.arr (ints r) 1 0]):=by
   have hrf:aS 0 K (aB 7 d) = aB 7 d:=j3 hgr
   have hnc:∀ h:H,aS 0 h (aF 0) = aF 0:=fun _ => rfl
   have q3:bB K 3 = some 0:=by rw [← hK]; rfl
   have q4:bB K 4 = some 0:=by rw [← hK]; rfl
   have q5:bB K 5 = some 1:=by rw [← hK]; rfl
   have q6:bB K 6 = some 0:=by rw [← hK]; rfl
   unfold eA
   rw [j7]
   conv => lhs; arg 2; rw [← hK]
   simp only [List.map_cons,List.map_append,List.map_nil,dF,aS,bT,kE,iT,hrf,hnc,lA,q3,q4,q5,q6,hge0,Nat.not_lt_zero,if_false,if_true]
  subst hK
  rw [SK (ord:=ord) (by rw [hids]; exact hr),hpk,hcm]
  have hmp:aG (aI ord) (tidy m s) = tidy m s:=by
   apply j4
   rw [hids]
   intro i hi
   simp only [List.mem_cons,List.not_mem_nil,or_false] at hi
   rcases hi with rfl | rfl | rfl
   ·exact p0
   ·exact p1
   ·exact p2
  rw [hmp]
 ·rfl
theorem aTj {m:List Bool} {s:List A} {a1 a2 a3 x0 x1:D} {k z:Nat} {cs:List D} {d:List (List Int)} (hl:d.length ≤ 4294967296):gc 0 m s (.box [.d a1,.d a2,.d a3] :: .box [.d x0,.sl 3 0 0 0,.sl 4 0 0 0] :: .box [.d x1,.sl 5 0 0 k,.sl 6 0 0 z] :: .arr [] 0 0 :: .arr [] 0 0 :: .vec (aB 7 d ++ aF 0) 1 0 :: .arr cs 1 0 :: aH d) = match box (tidy m s) with
  | .mk s1 => if idsL s1 = [0,1,2] then (aS 0 (.box [.d a1,.d a2,.d a3] :: .box [.d x0,.sl 3 0 0 0,.sl 4 0 0 0] :: .box [.d x1,.sl 5 0 0 k,.sl 6 0 0 z] :: .arr [] 0 0 :: .arr [] 0 0 :: .vec (aB 7 d ++ aF 0) 1 0 :: .arr cs 1 0 :: aH d) (s1),.box [.d a1,.d a2,.d a3] :: .box [.d x0,.sl 3 0 0 0,.sl 4 0 0 0] :: .box [.d x1,.sl 5 0 0 k,.sl 6 0 0 z] :: .arr [] 0 0 :: .arr [] 0 0 :: .vec (aB 7 d ++ aF 0) 1 0 :: .arr cs 1 0 :: aH d) else gcO 0 m s (.box [.d a1,.d a2,.d a3] :: .box [.d x0,.sl 3 0 0 0,.sl 4 0 0 0] :: .box [.d x1,.sl 5 0 0 k,.sl 6 0 0 z] :: .arr [] 0 0 :: .arr [] 0 0 :: .vec (aB 7 d ++ aF 0) 1 0 :: .arr cs 1 0 :: aH d)
  | .no => ([],[]):=by
 simp only [box]
 split
 ·rename_i hc
  have hb:=hc
  have hids:idsL (tidy m s) = [0,1,2]:=by exact hb
  obtain ⟨h,hh⟩:∃ h:H,O.box [.d a1,.d a2,.d a3] :: .box [.d x0,.sl 3 0 0 0,.sl 4 0 0 0] :: .box [.d x1,.sl 5 0 0 k,.sl 6 0 0 z] :: .arr [] 0 0 :: .arr [] 0 0 :: .vec (aB 7 d ++ aF 0) 1 0 :: .arr cs 1 0 :: aH d = h:=⟨_,rfl⟩
  conv => lhs; rw [hh]
  have g0:h[0]? = some (.box [.d a1,.d a2,.d a3]):=by rw [← hh]; rfl
  have g1:h[1]? = some (.box [.d x0,.sl 3 0 0 0,.sl 4 0 0 0]):=by rw [← hh]; rfl
  have g2:h[2]? = some (.box [.d x1,.sl 5 0 0 k,.sl 6 0 0 z]):=by rw [← hh]; rfl
  have g3:h[3]? = some (.arr [] 0 0):=by rw [← hh]; rfl
  have g4:h[4]? = some (.arr [] 0 0):=by rw [← hh]; rfl
  have g5:h[5]? = some (.vec (aB 7 d ++ aF 0) 1 0):=by rw [← hh]; rfl
  have g6:h[6]? = some (.arr cs 1 0):=by rw [← hh]; rfl
  have hD:h.drop 7 = aH d ++ []:=by rw [← hh]; exact (List.append_nil _).symm
  have gr:=mI 7 hD
  have k0:kids h (0) = []:=by simp [kids,g0,idsL,idsA]
  have k1:kids h (1) = [3,4]:=by simp [kids,g1,idsL,idsA]
  have k2:kids h (2) = [5,6]:=by simp [kids,g2,idsL,idsA]
  have k3:kids h (3) = []:=bZ g3
  have k4:kids h (4) = []:=bZ g4
  have k5:kids h (5) = List.range' 7 d.length:=by simp [kids,g5,bW,c9,eM,idsL,idsA]
  have leaf:=nE gr
  have hr:aC aE h [0,1,2] [] = [0,1,2,3,4,5] ++ ([6] ++ (List.range' 7 d.length ++ [])):=kP (by simp [k0,k1,k2,k3,k4,k5]) (by intro q hq; simp only [List.length_cons,List.length_nil] at hq; have:q = 0 ∨ q = 1 ∨ q = 2 ∨ q = 3 ∨ q = 4 ∨ q = 5:=(by omega); rcases this with rfl | rfl | rfl | rfl | rfl | rfl <;> simp [k0,k1,k2,k3,k4,k5]) leaf (by intro i hi; simp at hi; subst hi; exact ⟨_,_,_,by assumption⟩) (by intro i hi; simp at hi; rcases hi with rfl | rfl | rfl | rfl | rfl | rfl <;> exact ⟨_,by assumption,by simp⟩) (by simp <;> omega) (by intro i hi; simp at hi; omega) (by simp only [aE,List.length_cons,List.length_nil]; omega)
  generalize hord:[0,1,2,3,4,5] ++ ([6] ++ (List.range' 7 d.length ++ [])) = ord at hr
  have hA:ord = ([0,1,2,3,4,5] ++ [6]) ++ (List.range' 7 d.length ++ []):=by rw [← hord,List.append_assoc]
  have pk:∀ i j,ord[j]? = some i → aI ord i = some j:=fun i j h1 => fS (by rw [← hr]; exact cY aE h _ [] (by simp)) h1
  have p0:=pk (0) 0 (by rw [← hord]; rfl)
  have p1:=pk (1) 1 (by rw [← hord]; rfl)
  have p2:=pk (2) 2 (by rw [← hord]; rfl)
  have p3:=pk (3) 3 (by rw [← hord]; rfl)
  have p4:=pk (4) 4 (by rw [← hord]; rfl)
  have p5:=pk (5) 5 (by rw [← hord]; rfl)
  have p6:=pk (6) 6 (by rw [← hord]; rfl)
  have pr:=nG (C:=7) pk hA rfl
  obtain ⟨K,hK⟩:∃ K:H,O.box [.d a1,.d a2,.d a3] :: .box [.d x0,.sl 3 0 0 0,.sl 4 0 0 0] :: .box [.d x1,.sl 5 0 0 k,.sl 6 0 0 z] :: .arr [] 0 0 :: .arr [] 0 0 :: .vec (aB 7 d ++ aF 0) 1 0 :: .arr cs 1 0 :: aH d = K:=⟨_,rfl⟩
  have hni:∀ f,aG f (aF 0) = aF 0:=fun _ => rfl
  have hpk:pack h ord = K:=by
   have hrf:aG (aI ord) (aB 7 d) = aB 7 d:=jD (c:=0) pr
   rw [pB hA gr,← hK]
   simp only [List.cons_append,List.nil_append,List.map_cons,List.map_nil,List.getD_eq_getElem?_getD,g0,g1,g2,g3,g4,g5,g6,Option.getD_some,mapO,aG,mapA,eX,hrf,hni,p0,p1,p2,p3,p4,p5,p6,List.append_nil]
  have hKD:K.drop 7 = aH d ++ []:=by rw [← hK]; exact (List.append_nil _).symm
  have hgr:=r6 hKD
  have hcm:eA 0 K = .box [.d a1,.d a2,.d a3] :: .box [.d x0,.sl 3 0 0 0,.sl 4 0 0 0] :: .box [.d x1,.sl 5 0 0 k,.sl 6 0 0 z] :: .arr [] 0 0 :: .arr [] 0 0 :: .vec (aB 7 d ++ aF 0) 1 0 :: .arr cs 1 0 :: aH d:=by
   have hrf:aS 0 K (aB 7 d) = aB 7 d:=j3 hgr
   have hnc:∀ h:H,aS 0 h (aF 0) = aF 0:=fun _ => rfl
   have q3:bB K 3 = some 0:=by rw [← hK]; rfl
   have q4:bB K 4 = some 0:=by rw [← hK]; rfl
   have q5:bB K 5 = some 0:=by rw [← hK]; rfl
   have q6:bB K 6 = some 0:=by rw [← hK]; rfl
   unfold eA
   rw [j7]
   conv => lhs; arg 2; rw [← hK]
   simp only [List.map_cons,List.map_append,List.map_nil,dF,aS,bT,kE,iT,hrf,hnc,lA,q3,q4,q5,q6,Nat.not_lt_zero,if_false,if_true]
  subst hK
  rw [SK (ord:=ord) (by rw [hids]; exact hr),hpk,hcm]
  have hmp:aG (aI ord) (tidy m s) = tidy m s:=by
   apply j4
   rw [hids]
   intro i hi
   simp only [List.mem_cons,List.not_mem_nil,or_false] at hi
   rcases hi with rfl | rfl | rfl
   ·exact p0
   ·exact p1
   ·exact p2
  rw [hmp]
 ·rfl
def YD (n:Nat):List Nat:=[5,6] ++ (List.range' 7 n ++ [])
def IX (n i:Nat):Option Nat:=if i = 5 then some 0 else if i = 6 then some 1 else none
theorem aFL {n:Nat}:IX n 5 = some (0):=by unfold IX; repeat (first | rfl | rw [if_pos rfl] | rw [if_neg (by omega)])
theorem aEE {n:Nat}:IX n 6 = some (1):=by unfold IX; repeat (first | rfl | rw [if_pos rfl] | rw [if_neg (by omega)])
theorem aPB {o0 x0 x1:O} {o3 o4:O} {cs:List D} {d:List (List Int)} (hl:d.length ≤ 4294967296) {ids:List Nat}:fK 0 (o0 :: x0 :: x1 :: o3 :: o4 :: .vec (aB 7 d ++ aF 0) 1 0 :: .arr cs 1 0 :: aH d) ids = if ids = [5,6] then YD d.length else aQS 0 (o0 :: x0 :: x1 :: o3 :: o4 :: .vec (aB 7 d ++ aF 0) 1 0 :: .arr cs 1 0 :: aH d) ids:=by
 split
 ·rename_i hc
  subst hc
  obtain ⟨h,hh⟩:∃ h:H,o0 :: x0 :: x1 :: o3 :: o4 :: .vec (aB 7 d ++ aF 0) 1 0 :: .arr cs 1 0 :: aH d = h:=⟨_,rfl⟩
  conv => lhs; rw [hh]
  have g5:h[5]? = some (.vec (aB 7 d ++ aF 0) 1 0):=by rw [← hh]; rfl
  have g6:h[6]? = some (.arr cs 1 0):=by rw [← hh]; rfl
  have hD:h.drop 7 = aH d ++ []:=by rw [← hh]; exact (List.append_nil _).symm
  have gr:=mI 7 hD
  have k5:kids h (5) = List.range' 7 d.length:=by simp [kids,g5,bW,c9,eM,idsL,idsA]
  have leaf:=nE gr
  have hr:aC aE h [5,6] [] = [5] ++ ([6] ++ (List.range' 7 d.length ++ [])):=kP (by simp [k5]) (by intro q hq; simp only [List.length_cons,List.length_nil] at hq; have:q = 0:=(by omega); rcases this with rfl <;> simp [k5]) leaf (by intro i hi; simp at hi; subst hi; exact ⟨_,_,_,by assumption⟩) (by intro i hi; simp at hi; subst hi; exact ⟨_,by assumption,by simp⟩) (by simp <;> omega) (by intro i hi; simp at hi; omega) (by simp only [aE,List.length_cons,List.length_nil]; omega)
  generalize hord:[5] ++ ([6] ++ (List.range' 7 d.length ++ [])) = ord at hr
  rw [BV]
  unfold aE at hr
  rw [hr,← hord]
  rfl
 ·rfl
theorem aPt {o0 x0 x1:O} {o3 o4:O} {cs:List D} {d:List (List Int)} (hl:d.length ≤ 4294967296) {s:List A}:trim 0 (o0 :: x0 :: x1 :: o3 :: o4 :: .vec (aB 7 d ++ aF 0) 1 0 :: .arr cs 1 0 :: aH d) (YD d.length) s = if idsL s = [5,6] ∧ z0As s = true then (aG (IX d.length) s,.vec (aB 2 d ++ aF 0) 1 0 :: .arr cs 1 0 :: aH d) else aQO 0 (o0 :: x0 :: x1 :: o3 :: o4 :: .vec (aB 7 d ++ aF 0) 1 0 :: .arr cs 1 0 :: aH d) (YD d.length) s:=by
 split
 ·rename_i hc
  obtain ⟨hids,hz⟩:=hc
  obtain ⟨h,hh⟩:∃ h:H,o0 :: x0 :: x1 :: o3 :: o4 :: .vec (aB 7 d ++ aF 0) 1 0 :: .arr cs 1 0 :: aH d = h:=⟨_,rfl⟩
  conv => lhs; rw [hh]
  have g5:h[5]? = some (.vec (aB 7 d ++ aF 0) 1 0):=by rw [← hh]; rfl
  have g6:h[6]? = some (.arr cs 1 0):=by rw [← hh]; rfl
  have hD:h.drop 7 = aH d ++ []:=by rw [← hh]; exact (List.append_nil _).symm
  have gr:=mI 7 hD
  have k5:kids h (5) = List.range' 7 d.length:=by simp [kids,g5,bW,c9,eM,idsL,idsA]
  have leaf:=nE gr
  have hr:aC aE h [5,6] [] = [5] ++ ([6] ++ (List.range' 7 d.length ++ [])):=kP (by simp [k5]) (by intro q hq; simp only [List.length_cons,List.length_nil] at hq; have:q = 0:=(by omega); rcases this with rfl <;> simp [k5]) leaf (by intro i hi; simp at hi; subst hi; exact ⟨_,_,_,by assumption⟩) (by intro i hi; simp at hi; subst hi; exact ⟨_,by assumption,by simp⟩) (by simp <;> omega) (by intro i hi; simp at hi; omega) (by simp only [aE,List.length_cons,List.length_nil]; omega)
  generalize hord:[5] ++ ([6] ++ (List.range' 7 d.length ++ [])) = ord at hr
  have hA:ord = ([5] ++ [6]) ++ (List.range' 7 d.length ++ []):=by rw [← hord,List.append_assoc]
  have pk:∀ i j,ord[j]? = some i → aI ord i = some j:=fun i j h1 => fS (by rw [← hr]; exact cY aE h _ [] (by simp)) h1
  have p5:=pk (5) 0 (by rw [← hord]; rfl)
  have p6:=pk (6) 1 (by rw [← hord]; rfl)
  have pr:=nG (C:=2) pk hA rfl
  obtain ⟨K,hK⟩:∃ K:H,O.vec (aB 2 d ++ aF 0) 1 0 :: .arr cs 1 0 :: aH d = K:=⟨_,rfl⟩
  have hni:∀ f,aG f (aF 0) = aF 0:=fun _ => rfl
  have hpk:pack h ord = K:=by
   have hrf:aG (aI ord) (aB 7 d) = aB 2 d:=jD (c:=0) pr
   rw [pB hA gr,← hK]
   simp only [List.cons_append,List.nil_append,List.map_cons,List.map_nil,List.getD_eq_getElem?_getD,g5,g6,Option.getD_some,mapO,aG,mapA,eX,hrf,hni,p5,p6,List.append_nil]
  have hKD:K.drop 2 = aH d ++ []:=by rw [← hK]; exact (List.append_nil _).symm
  have hgr:=r6 hKD
  have hcm:eA 0 K = .vec (aB 2 d ++ aF 0) 1 0 :: .arr cs 1 0 :: aH d:=by
   have hrf:aS 0 K (aB 2 d) = aB 2 d:=j3 hgr
   have hnc:∀ h:H,aS 0 h (aF 0) = aF 0:=fun _ => rfl
   have q0:bB K 0 = some 0:=by rw [← hK]; rfl
   have q1:bB K 1 = some 0:=by rw [← hK]; rfl
   unfold eA
   rw [j7]
   conv => lhs; arg 2; rw [← hK]
   simp only [List.map_cons,List.map_append,List.map_nil,dF,aS,bT,kE,iT,hrf,hnc,lA,q0,q1,Nat.not_lt_zero,if_false,if_true]
  subst hK
  have hoo:YD d.length = ord:=by rw [← hord]; rfl
  unfold trim
  rw [hoo,hpk,hcm]
  have hz2:aS 0 (O.vec (aB 2 d ++ aF 0) 1 0 :: .arr cs 1 0 :: aH d) (aG (aI ord) s) = aG (aI ord) s:=by
   exact oU (JM (by simp [z0O,z0As,z0A,D8,zO,zP,KE])) _ (A6 _ hz)
  have hmp:aG (aI ord) s = aG (IX d.length) s:=by
   apply o7
   rw [hids]
   intro i hi
   simp only [List.mem_cons,List.not_mem_nil,or_false] at hi
   rcases hi with rfl | rfl
   ·rw [p5,aFL]
   ·rw [p6,aEE]
  rw [hz2,hmp]
 ·rfl


section
section
variable {h:H} {a b c d:O}
theorem aPh:(h ++ [a,b,c])[h.length + 1 + 1]? = some c:=by
 rw [List.getElem?_append_right (by omega),show h.length + 1 + 1 - h.length = 2 by omega]
 rfl
theorem aPD:(h ++ [a,b,c]).set (h.length + 1 + 1) d = h ++ [a,b,d]:=by
 rw [List.set_append_right _ _ (by omega),show h.length + 1 + 1 - h.length = 2 by omega]
 rfl
end
theorem aPS {a b:Foot} (ha:a.ro = true) (hb:b.ro = true):oT a b = false:=by
 unfold oT
 rw [ha,hb]
 rfl
section
variable {L n:Nat} {h:H} {al:Int} {rs:List (List Int)} {ac:List Bool}
end
end
theorem IN {f:Nat → Option Nat}:∀ (k:Nat) (cs:List A),(aG f cs).take k = aG f (cs.take k)
 | 0,cs => by simp [aG]
 | k + 1,[] => by simp [aG]
 | k + 1,c :: cs => by simp only [aG,List.take_succ_cons,IN k cs]
theorem RT {f:Nat → Option Nat}:∀ (k:Nat) (cs:List A),(aG f cs).drop k = aG f (cs.drop k)
 | 0,cs => rfl
 | k + 1,[] => by simp [aG]
 | k + 1,c :: cs => by simp only [aG,List.drop_succ_cons,RT k cs]
theorem aJl {h:H} {ord ids:List Nat} {id k:Nat} {o:O} (hc:closed h ord ids = true) (hn:ord.Nodup) (hl:∀ i ∈ ord,i < h.length) (hk:aI ord id = some k) :
  bP (fun (k:Nat) => ord[k]?) h ord ((pack h ord).set k o) = h.set id (mapO (fun (k:Nat) => ord[k]?) o):=by
 have hpl:(pack h ord).length = ord.length:=by simp [pack]
 have hid:=hl id (NP hk)
 apply List.ext_getElem?
 intro i
 rw [ET _ ord h _ i hn hl (by simp [pack])]
 cases hp:aI ord i with
 | none =>
  have hne:id ≠ i:=fun e => by rw [e,hp] at hk; cases hk
  rw [List.getElem?_set_ne hne]
  simp only []
  split
  ·rfl
  ·rename_i hge
   rw [List.getElem?_eq_none (by simp [pack]),List.getElem?_eq_none (by omega)]
   rfl
 | some q =>
  simp only []
  by_cases hqk:q = k
  ·subst hqk
   have h1:=bI hp
   have h2:=bI hk
   rw [h1] at h2
   obtain rfl:i = id:=Option.some.inj h2
   rw [List.getElem?_set_self (by rw [hpl]; exact EG hp),List.getElem?_set_self hid]
   rfl
  ·have hne:id ≠ i:=fun e => by rw [e,hp] at hk; exact hqk (Option.some.inj hk)
   rw [List.getElem?_set_ne (fun e => hqk e.symm),List.getElem?_set_ne hne]
   have hm:=NP hp
   obtain ⟨x,hx⟩:∃ x,h[i]? = some x:=⟨h[i]'(hl i hm),List.getElem?_eq_getElem _⟩
   rw [mG (bI hp) hx,hx,Option.map_some,VM hc hm hx]
theorem KR {E:Env} {call:a9} {thaw:List Nat} {dst:Option Tmp} {op:Op} {h:H} {vs:List A} {a a2:A} {o o2:O} {id k:Nat} {ord:List Nat} (hord:aC aE h (idsL vs) [] = ord) (hc:closed h ord (idsL vs) = true) (hk:aI ord id = some k) (hro:fQ E op vs = false)
  (hev:evOp E call thaw (pack h ord) (gT dst op) (aG (aI ord) vs) = some (a,(pack h ord).set k o)) (ha:mapA (fun (k:Nat) => ord[k]?) a = a2) (ho:mapO (fun (k:Nat) => ord[k]?) o = o2) :
  memD E call thaw dst op h vs = some (a2,h.set id o2,{ ids:=ord,ro:=false,wr:=wrOf E op vs ord }):=by
 have hn:ord.Nodup:=by rw [← hord]; exact cY aE h (idsL vs) [] (by simp)
 have hl:∀ i ∈ ord,i < h.length:=by rw [← hord]; exact oK aE h (idsL vs) [] (by simp)
 have hpl:((pack h ord).set k o).length = ord.length:=by simp [pack]
 unfold memD
 rw [hord]
 simp only [box,hev,hpl,Nat.le_refl,hc,and_self,if_true,hro,Bool.false_and,Bool.false_eq_true,if_false,aFS,Nat.sub_self]
 rw [aJl hc hn hl hk,ha,ho]
 simp
theorem XA {E:Env} {call:a9} {thaw:List Nat} {dst:Option Tmp} {args:Array Operand} {t e:TypeId} {h:H} {id id2 g g2 len:Nat} {cs:List A} {c:A} (he:bH E.P t = some e) (hce:E.P.cellsOf e = 1) (hel:bO E.P e = true)
  (h1:h[id]? = some (.vec cs 1 g)) (h2:h[id2]? = some (.vec [c] 1 g2)) (hlen:len ≤ cs.length) (hmax:len + 1 ≤ b5) (ok1:Okay h id) (ok2:Okay h id2) (hw:2 + wgt h ≤ 1099511627776) :
  memD E call thaw dst (.call ⟨.builtin .append,args,#[t,t]⟩) h [.sl id g 0 len,.sl id2 g2 0 1] = some (.sl id (g + 1) 0 (len + 1),h.set id (.vec (cs.take len ++ [c]) 1 (g + 1)),{ ids:=aC aE h [id,id2] [],ro:=false,wr:=[id] }):=by
 have hids:idsL [A.sl id g 0 len,A.sl id2 g2 0 1] = [id,id2]:=rfl
 obtain ⟨c1,c2,c3⟩:=V1 (h:=h) (ids:=[id,id2]) (by intro i hi; simp at hi; rcases hi with rfl | rfl; exact ok1; exact ok2) (by simpa using hw)
 obtain ⟨ord,hord⟩:∃ ord,aC aE h [id,id2] [] = ord:=⟨_,rfl⟩
 rw [hord] at c1 c2 c3
 obtain ⟨k,hk⟩:=dH (c2 id (by simp))
 obtain ⟨k2,hk2⟩:=dH (c2 id2 (by simp))
 have p1:=mG (h:=h) (bI hk) h1
 have p2:=mG (h:=h) (bI hk2) h2
 have kid:∀ i,i ∈ ord → ∀ q ∈ kids h i,∃ j,aI ord q = some j:=fun i hi q hq => dH (c3 i hi q hq)
 have bk:∀ xs:List A,(∀ i ∈ idsL xs,i ∈ ord) → aG (fun (k:Nat) => ord[k]?) (aG (aI ord) xs) = xs:=by
  intro xs hx
  rw [o6 (q:=fun i => (aI ord i).bind fun k => ord[k]?) (fun _ => rfl)]
  apply j4
  intro i hi
  obtain ⟨j,hj⟩:=dH (hx i hi)
  simp only [hj,Option.bind_some]
  exact bI hj
 have hcs:∀ i ∈ idsL cs,i ∈ ord:=by
  have:=c3 id (c2 id (by simp))
  simpa only [kids,h1] using this
 have hcc:∀ i ∈ idsL [c],i ∈ ord:=by
  have:=c3 id2 (c2 id2 (by simp))
  simpa only [kids,h2] using this
 have hnew:∀ i ∈ idsL (cs.take len ++ [c]),i ∈ ord:=by
  intro i hi
  rw [bW,List.mem_append] at hi
  rcases hi with hi | hi
  ·refine hcs i ?_
   have:=List.take_append_drop len cs
   rw [← this,bW,List.mem_append]
   exact .inl hi
  ·exact hcc i hi
 have hmt:(aG (aI ord) cs).take len = aG (aI ord) (cs.take len):=IN len cs
 have key:=KR (E:=E) (call:=call) (thaw:=thaw) (dst:=dst) (op:=.call ⟨.builtin .append,args,#[t,t]⟩) (h:=h) (vs:=[A.sl id g 0 len,A.sl id2 g2 0 1]) (a:=.sl k (g + 1) 0 (len + 1)) (a2:=.sl id (g + 1) 0 (len + 1)) (o:=.vec (aG (aI ord) (cs.take len ++ [c])) 1 (g + 1)) (o2:=.vec (cs.take len ++ [c]) 1 (g + 1)) (id:=id) (k:=k) (ord:=ord) (by rw [hids]; exact hord) (by rw [hids]; exact c1) hk rfl ?_ (by simp only [mapA,bI hk]) (by simp only [mapO,bk _ hnew])
 ·rw [key,hord]
  rfl
 ·have hu:E.P.underlying t = some (.slice e):=by
   unfold bH at he
   split at he
   ·rename_i hq; cases he; exact hq
   ·cases he
  have hv:IP (pack h ord) k = true:=by simp only [IP,p1,mapO]
  have hs:kT (pack h ord) 1 (.sl k2 g2 0 1) = some (1,aG (aI ord) [c]):=by
   simp [kT,p2,mapO,aG]
  simp only [aG,mapA,hk,hk2,evOp,gT,fI,dE,kZ,hv,if_true,sT,he,hel,hce,hs,p1,mapO,true_and,or_true,Nat.mul_one,FZ,hlen,hmax,and_self,hmt,eX,hu]
theorem yB {E:Env} {call:a9} {thaw:List Nat} {dst:Option Tmp} {x y:Operand} {t:TypeId} {h:H} {id id2 off g o len:Nat} {cs:List A} (ht:E.P.cellsOf t = 1) (hi:(E.P.info? t).isSome = true)
  (h1:h[id]? = some (.box cs)) (hoff:off + 1 ≤ cs.length) (ok1:Okay h id) (ok2:Okay h id2) (hw:2 + wgt h ≤ 1099511627776) :
  memD E call thaw dst (.store t x y) h [.ptr id 0 off,.sl id2 g o len] = some (.d .undef,h.set id (.box (bN cs off [.sl id2 g o len])),{ ids:=aC aE h [id,id2] [],ro:=false,wr:=aC aE h [id,id2] [] }):=by
 have hids:idsL [A.ptr id 0 off,A.sl id2 g o len] = [id,id2]:=rfl
 obtain ⟨c1,c2,c3⟩:=V1 (h:=h) (ids:=[id,id2]) (by intro i hi; simp at hi; rcases hi with rfl | rfl; exact ok1; exact ok2) (by simpa using hw)
 obtain ⟨ord,hord⟩:∃ ord,aC aE h [id,id2] [] = ord:=⟨_,rfl⟩
 rw [hord] at c1 c2 c3 ⊢
 obtain ⟨k,hk⟩:=dH (c2 id (by simp))
 obtain ⟨k2,hk2⟩:=dH (c2 id2 (by simp))
 have p1:=mG (h:=h) (bI hk) h1
 have bk:∀ xs:List A,(∀ i ∈ idsL xs,i ∈ ord) → aG (fun (k:Nat) => ord[k]?) (aG (aI ord) xs) = xs:=by
  intro xs hx
  rw [o6 (q:=fun i => (aI ord i).bind fun k => ord[k]?) (fun _ => rfl)]
  apply j4
  intro i hi
  obtain ⟨j,hj⟩:=dH (hx i hi)
  simp only [hj,Option.bind_some]
  exact bI hj
 have hcs:∀ i ∈ idsL cs,i ∈ ord:=by
  have:=c3 id (c2 id (by simp))
  simpa only [kids,h1] using this
 have split_cs:∀ q:Nat,(∀ i ∈ idsL (cs.take q),i ∈ ord) ∧ (∀ i ∈ idsL (cs.drop q),i ∈ ord):=by
  intro q
  have:=List.take_append_drop q cs
  constructor
  ·intro i hi
   refine hcs i ?_
   rw [← this,bW,List.mem_append]; exact .inl hi
  ·intro i hi
   refine hcs i ?_
   rw [← this,bW,List.mem_append]; exact .inr hi
 have hnew:∀ i ∈ idsL (bN cs off [.sl id2 g o len]),i ∈ ord:=by
  intro i hi
  unfold bN at hi
  rw [bW,bW,List.mem_append,List.mem_append] at hi
  rcases hi with (hi | hi) | hi
  ·exact (split_cs _).1 i hi
  ·simp [idsL,idsA] at hi; subst hi; exact c2 i (by simp)
  ·exact (split_cs _).2 i hi
 have hmr:bN (aG (aI ord) cs) off [.sl k2 g o len] = aG (aI ord) (bN cs off [.sl id2 g o len]):=by
  unfold bN
  rw [eX,eX,IN,RT]
  simp only [aG,mapA,hk2,List.length_cons,List.length_nil]
 have key:=KR (E:=E) (call:=call) (thaw:=thaw) (dst:=dst) (op:=.store t x y) (h:=h) (vs:=[A.ptr id 0 off,A.sl id2 g o len]) (a:=.d .undef) (a2:=.d .undef) (o:=.box (aG (aI ord) (bN cs off [.sl id2 g o len]))) (o2:=.box (bN cs off [.sl id2 g o len])) (id:=id) (k:=k) (ord:=ord) (by rw [hids]; exact hord) (by rw [hids]; exact c1) hk rfl ?_ (by simp only [mapA]) (by simp only [mapO,bk _ hnew])
 ·rw [key]
  rfl
 ·have hoff2:off + 1 ≤ (aG (aI ord) cs).length:=by rw [FZ]; exact hoff
  simp only [aG,mapA,hk,hk2,evOp,gT,two,m3,aR,List.length_cons,List.length_nil,Nat.zero_add,ht,hi,List.all_cons,List.all_nil,cW,Bool.and_self,and_self,if_true,p1,mapO,hoff2,aY,hmr,Option.map_some]
end Ev
end Go.Proofs.YtppdfjdfjfoddaaDoor
