/-
  The exact laws' own functions, at automata: sizes, marks, what is held, copies.
-/
import Derived.Test.YtppdfjdfjfoddaaDoorBlock
set_option linter.unusedSimpArgs false
set_option linter.unusedVariables false
set_option maxRecDepth 8000
set_option maxHeartbeats 4000000
namespace Go.Proofs.YtppdfjdfjfoddaaDoor
namespace Ev
def KM:List (List Int) → Nat
 | [] => 0
 | r :: rs => r.length + KM rs
section
section
variable {h h2:H} {nf:Nat} (hn:nf = h.length) (hk:∀ o ∈ h,∀ j ∈ mG o,j < nf)
include hn hk
end
theorem aDP {b k:Nat}:∀ {rs:List (List Int)} {b k:Nat},k < rs.length → ((aD b rs ++ aI 0).drop k).head? = some (.sl (b + k) 0 0 (rs.getD k []).length)
 | [],b,k,h => by simp at h
 | r :: rs,b,0,h => by simp [aD]
 | r :: rs,b,k + 1,h => by
  simp only [aD,List.cons_append,List.drop_succ_cons]
  rw [aDP (b:=b) (k:=k) (by simpa using h)]
  simp only [List.getD_cons_succ]
  congr 2
  omega
theorem aGM {d:List (List Int)} {k:Nat} (h:k < d.length):(aJ d)[k]? = some (.arr (ints (d.getD k [])) 1 0):=by
 rw [List.getD_eq_getElem?_getD,List.getElem?_eq_getElem h]
 exact UZ (List.getElem?_eq_getElem h)
theorem aNc {d:List (List Int)} {k:Nat} {r:List Int}:(aJ d).set k (.arr (ints r) 1 0) = aJ (d.set k r):=by
 unfold aJ
 rw [List.map_set]
 rfl
end
section
theorem O5 {m:List Bool} {s:List A} {h:H} {ord:List Nat} (hr:aF aG h (idsL (tidy m s)) [] = ord):gc 0 m s h = (aR 0 (pack h ord) (aH (aK ord) (tidy m s)),dU 0 (pack h ord)):=by
 unfold gc trim
 rw [y9]
 unfold aG at hr
 rw [hr]
theorem jD {h:H}:∀ (os:H) (i:Nat),gJ 0 h i os = os.map (c9 0 h 0)
 | [],_ => rfl
 | o :: os,i => by
  simp only [gJ,List.map_cons,jD os (i + 1)]
  cases o <;> simp [c9]
theorem j6 {h:H} {rs:List (List Int)}:(aJ rs).map (c9 0 h 0) = aJ rs:=by
 simp [aJ,c9]
theorem iB {nf:Nat} {h:H}:∀ (xs ys:List A),aR nf h (xs ++ ys) = aR nf h xs ++ aR nf h ys
 | [],ys => by simp [aR]
 | x :: xs,ys => by simp [aR,iB xs ys]
theorem jA {h:H}:∀ {rs:List (List Int)} {b:Nat},(∀ i,i < rs.length → a6 h (b + i) = some 0) → aR 0 h (aD b rs) = aD b rs
 | [],b,_ => by simp [aD,aR]
 | r :: rs,b,hh => by
  have h0:=hh 0 (by simp)
  simp only [Nat.add_zero] at h0
  simp only [aD,aR,bO,jL,Nat.not_lt_zero,if_false,h0,if_true]
  rw [jA (rs:=rs) (b:=b + 1) fun i hi => by
   rw [show b + 1 + i = b + (i + 1) by omega]
   exact hh (i + 1) (by simp; omega)]
theorem aNq {f:Nat → Option Nat} {h:H} {b:Nat} {rs:List (List Int)} (hh:∀ (i:Nat) (r:List Int),rs[i]? = some r → h[b + i]? = some (.arr (ints r) 1 0)):(List.range' b rs.length).map (fun i => mapO f (h.getD i default)) = aJ rs:=aC5 hh
theorem G8 {rs:List (List Int)} {p:H} {i:Nat} {r:List Int} (h:rs[i]? = some r):(aJ rs ++ p)[i]? = some (.arr (ints r) 1 0):=by
 rw [List.getElem?_append_left (by rw [dK]; exact tK h)]
 exact UZ h
theorem PV {b k:Nat} {rs:List (List Int)} (h:k = rs.length):(aD b rs ++ aI 0).take k = aD b rs:=by
 have hn:aI 0 = []:=rfl
 rw [hn,List.append_nil,List.take_of_length_le (by rw [mO]; omega)]
section
variable {x0 x1:D} {k z:Nat} {cs cr:List D} {d:List (List Int)} {p:H}
theorem bX {h:H} {i:Nat} {r:List D} {e g:Nat} (hr:h[i]? = some (.arr r e g)):kids h i = []:=by simp only [kids,hr]
mutual
theorem aNi {f g:Nat → Option Nat}:∀ a:A,(∀ i ∈ idsA a,f i = g i) → mapA f a = mapA g a
 | .d x,_ => by simp only [mapA]
 | .sl id gen off len,hi => by simp only [mapA,hi id (by simp [idsA])]
 | .ptr id gen off,hi => by simp only [mapA,hi id (by simp [idsA])]
 | .mp id,hi => by simp only [mapA,hi id (by simp [idsA])]
 | .clo q caps,hi => by simp only [mapA]; rw [nU caps (by simpa only [idsA] using hi)]
 | .agg cs,hi => by simp only [mapA]; rw [nU cs (by simpa only [idsA] using hi)]
 | .tup cs,hi => by simp only [mapA]; rw [nU cs (by simpa only [idsA] using hi)]
 | .junk,_ => by simp only [mapA]
theorem nU {f g:Nat → Option Nat}:∀ xs:List A,(∀ i ∈ idsL xs,f i = g i) → aH f xs = aH g xs
 | [],_ => by simp only [aH]
 | a :: xs,hi => by
  simp only [idsL,List.mem_append] at hi
  simp only [aH]
  rw [aNi a fun i h => hi i (.inl h),nU xs fun i h => hi i (.inr h)]
end
mutual
theorem aQv {f:Nat → Option Nat}:∀ a:A,z0A a = true → z0A (mapA f a) = true
 | .d x,_ => by simp only [mapA,z0A]
 | .sl id gen off len,hz => by simp only [mapA]; cases f id <;> first | rfl | exact hz
 | .ptr id gen off,hz => by simp only [mapA]; cases f id <;> first | rfl | exact hz
 | .mp id,hz => by simp only [mapA]; cases f id <;> first | rfl | exact hz
 | .clo q caps,hz => by simp only [mapA,z0A] at hz ⊢; exact zN caps hz
 | .agg cs,hz => by simp only [mapA,z0A] at hz ⊢; exact zN cs hz
 | .tup cs,hz => by simp only [mapA,z0A] at hz ⊢; exact zN cs hz
 | .junk,_ => by simp only [mapA,z0A]
theorem zN {f:Nat → Option Nat}:∀ xs:List A,z0As xs = true → z0As (aH f xs) = true
 | [],_ => by simp only [aH,z0As]
 | a :: xs,hz => by
  simp only [z0As,Bool.and_eq_true] at hz
  simp only [aH,z0As,Bool.and_eq_true]
  exact ⟨aQv a hz.1,zN xs hz.2⟩
end
end
theorem lA {h p:H} {d:List (List Int)} (B:Nat) (hd:h.drop B = aJ d ++ p):∀ (i:Nat) (r:List Int),d[i]? = some r → h[B + i]? = some (.arr (ints r) 1 0):=by
 intro i r hr
 rw [← List.getElem?_drop,hd]
 exact G8 hr
theorem yM {h p:H} {d:List (List Int)} (B q:Nat) (hd:h.drop B = aJ d ++ p) {o:O} (ho:p[q]? = some o) {j:Nat} (hj:j = d.length + (B + q)):h[j]? = some o:=by
 subst hj
 rw [show d.length + (B + q) = B + (d.length + q) by omega,← List.getElem?_drop,hd,List.getElem?_append_right (by rw [dK]; omega),dK,Nat.add_sub_cancel_left]
 exact ho
theorem mB {h:H} {d:List (List Int)} {B:Nat} (gr:∀ (i:Nat) (r:List Int),d[i]? = some r → h[B + i]? = some (.arr (ints r) 1 0)):∀ i ∈ List.range' B d.length,∃ r:List Int,h[i]? = some (.arr (ints r) 1 0):=by
 intro i hi
 rw [List.mem_range'_1] at hi
 obtain ⟨j,rfl⟩:∃ j,i = B + j:=⟨i - B,by omega⟩
 exact ⟨d[j]'(by omega),gr j _ (List.getElem?_eq_getElem (by omega))⟩
theorem jW {h:H} {ids P T L:List Nat} {B n N:Nat} (hfix:P ++ (T ++ (List.range' B n ++ L)) = ids ++ P.flatMap (kids h)) (hprog:∀ k,k < P.length → k < ids.length + ((P.take k).flatMap (kids h)).length)
  (leaf:∀ i ∈ List.range' B n,∃ r:List Int,h[i]? = some (.arr (ints r) 1 0)) (hT:∀ i ∈ T ++ L,∃ cs e g,h[i]? = some (.arr cs e g)) (hP:∀ i ∈ P,∃ o,h[i]? = some o ∧ o ≠ .void)
  (hnd:(P ++ (T ++ L)).Nodup) (hout:∀ i ∈ P ++ (T ++ L),i < B ∨ B + n ≤ i) (hf:P.length + T.length + n + L.length ≤ N):aF N h ids [] = P ++ (T ++ (List.range' B n ++ L)):=by
 refine aMh hfix ?_ hprog ?_ ?_ ?_
 ·intro i hi
  rcases List.mem_append.1 hi with h1 | h1
  ·obtain ⟨cs,e,g,h2⟩:=hT i (List.mem_append.2 (.inl h1)); exact bX h2
  ·rcases List.mem_append.1 h1 with h2 | h2
   ·obtain ⟨r,hr⟩:=leaf i h2; exact bX hr
   ·obtain ⟨cs,e,g,h3⟩:=hT i (List.mem_append.2 (.inr h2)); exact bX h3
 ·have hp:(P ++ (T ++ (List.range' B n ++ L))).Perm (List.range' B n ++ (P ++ (T ++ L))):=by
   have e1:(T ++ (List.range' B n ++ L)).Perm (List.range' B n ++ (T ++ L)):=by
    rw [← List.append_assoc T _ L,← List.append_assoc _ T L]
    exact List.Perm.append_right L List.perm_append_comm
   refine (List.Perm.append_left P e1).trans ?_
   rw [← List.append_assoc P _ (T ++ L),← List.append_assoc _ P (T ++ L)]
   exact List.Perm.append_right (T ++ L) List.perm_append_comm
  rw [hp.nodup_iff,List.nodup_append]
  refine ⟨List.nodup_range',hnd,fun a ha b hb e => ?_⟩
  subst e
  rw [List.mem_range'_1] at ha
  have:=hout a hb
  omega
 ·intro i hi
  rcases List.mem_append.1 hi with h1 | h1
  ·exact hP i h1
  ·rcases List.mem_append.1 h1 with h1 | h1
   ·obtain ⟨cs,e,g,h2⟩:=hT i (List.mem_append.2 (.inl h1)); exact ⟨_,h2,by simp⟩
   ·rcases List.mem_append.1 h1 with h2 | h2
    ·obtain ⟨r,hr⟩:=leaf i h2; exact ⟨_,hr,by simp⟩
    ·obtain ⟨cs,e,g,h3⟩:=hT i (List.mem_append.2 (.inr h2)); exact ⟨_,h3,by simp⟩
 ·simp only [List.length_append,List.length_range']; omega
theorem lZ {ord A L:List Nat} {B C n:Nat} (pk:∀ i j,ord[j]? = some i → aK ord i = some j) (ho:ord = A ++ (List.range' B n ++ L)) (hA:A.length = C):∀ i,i < n → aK ord (B + i) = some (C + i):=by
 intro i hi
 refine pk _ _ ?_
 rw [ho,List.getElem?_append_right (by omega),hA,Nat.add_sub_cancel_left,List.getElem?_append_left (by simpa using hi),List.getElem?_range' hi]
 simp
theorem UC {ord A L:List Nat} {B C n:Nat} (pk:∀ i j,ord[j]? = some i → aK ord i = some j) (ho:ord = A ++ (List.range' B n ++ L)) (hA:A.length = C) (q:Nat) {i j:Nat} (hq:L[q]? = some i) (hj:j = n + (C + q)):aK ord i = some j:=by
 subst hj
 refine pk _ _ ?_
 rw [ho,List.getElem?_append_right (by omega),hA,show n + (C + q) - C = n + q by omega,List.getElem?_append_right (by simp),List.length_range',Nat.add_sub_cancel_left]
 exact hq
theorem qA {K p:H} {d:List (List Int)} {C:Nat} (hd:K.drop C = aJ d ++ p):∀ i,i < d.length → a6 K (C + i) = some 0:=by
 intro i hi
 have:=lA C hd i _ (List.getElem?_eq_getElem hi)
 simp only [a6,this]
theorem nW {h:H} {ord A L:List Nat} {d:List (List Int)} {B:Nat} (ho:ord = A ++ (List.range' B d.length ++ L)) (gr:∀ (i:Nat) (r:List Int),d[i]? = some r → h[B + i]? = some (.arr (ints r) 1 0)):pack h ord = A.map (fun i => mapO (aK ord) (h.getD i default)) ++ (aJ d ++ L.map (fun i => mapO (aK ord) (h.getD i default))):=by
 unfold pack
 conv => lhs; arg 2; rw [ho]
 rw [List.map_append,List.map_append,aNq gr]
end
mutual
theorem aN5 {p:H} (h0:a6 p 0 = none):∀ a:A,bO 1 p a = bO 0 p a
 | .d x => by simp only [bO]
 | .sl id gen off len => by
  simp only [bO,jL,Nat.not_lt_zero,if_false]
  by_cases hi:id < 1
  ·obtain rfl:id = 0:=by omega
   simp [h0]
  ·rw [if_neg hi]
 | .ptr id gen off => by
  simp only [bO,JT,Nat.not_lt_zero,if_false]
  by_cases hi:id < 1
  ·obtain rfl:id = 0:=by omega
   simp [h0]
  ·rw [if_neg hi]
 | .mp id => by simp only [bO]
 | .clo g cs => by simp only [bO]; rw [x7 h0 cs]
 | .agg cs => by simp only [bO]; rw [x7 h0 cs]
 | .tup cs => by simp only [bO]; rw [x7 h0 cs]
 | .junk => by simp only [bO]
theorem x7 {p:H} (h0:a6 p 0 = none):∀ xs:List A,aR 1 p xs = aR 0 p xs
 | [] => by simp only [aR]
 | x :: xs => by simp only [aR]; rw [aN5 h0 x,x7 h0 xs]
end
theorem aN7 {p:H} (h0:a6 p 0 = none) {i:Nat} (hi:1 ≤ i) (o:O):c9 1 p i o = c9 0 p i o:=by
 cases o <;> simp only [c9,Nat.not_lt_zero,if_false,x7 h0,if_neg (show ¬ i < 1 by omega)]
theorem WY {p:H} (h0:a6 p 0 = none):∀ (os:H) (i:Nat),1 ≤ i → gJ 1 p i os = gJ 0 p i os
 | [],i,_ => rfl
 | o :: os,i,hi => by simp only [gJ]; rw [aN7 h0 hi,WY h0 os (i + 1) (by omega)]
theorem aCO {x y:D} {t:H} {l:List Nat} {s:List A}:trim 1 (.box [.d x,.d y] :: t) (0 :: l) s = trim 0 (.box [.d x,.d y] :: t) (0 :: l) s:=by
 have hp:pack (.box [.d x,.d y] :: t) (0 :: l) = .box [.d x,.d y] :: l.map fun i => mapO (aK (0 :: l)) ((O.box [.d x,.d y] :: t).getD i default):=by
  simp [pack,mapO,aH,mapA]
 have h0:a6 (pack (.box [.d x,.d y] :: t) (0 :: l)) 0 = none:=by rw [hp]; rfl
 unfold trim
 rw [x7 h0]
 congr 1
 unfold dU
 generalize hq:pack (.box [.d x,.d y] :: t) (0 :: l) = p at *
 obtain ⟨os,hos⟩:∃ os,p = .box [.d x,.d y] :: os:=⟨_,hp⟩
 have key:∀ w:H,w = .box [.d x,.d y] :: os → gJ 1 p 0 w = gJ 0 p 0 w:=by
  intro w hw
  subst hw
  simp only [gJ]
  rw [WY h0 _ (0 + 1) (Nat.le_refl _)]
  simp only [c9,aR,bO]
 exact key p hos
theorem aNC {x y:D} {t:H} {n:Nat} {l:List Nat}:aF (n + 1) (.box [.d x,.d y] :: t) (0 :: l) [0] = aF n (.box [.d x,.d y] :: t) l [0]:=by
 simp [aF]
theorem PC {x y:D} {t:H} {n:Nat} {l:List Nat}:aF (n + 1) (.box [.d x,.d y] :: t) (0 :: l) [] = aF n (.box [.d x,.d y] :: t) l [0]:=by
 simp [aF,idsL,idsA]
theorem nS:∀ (n:Nat) (h:H) (todo acc:List Nat),∃ q,aF n h todo acc = acc ++ q
 | 0,h,todo,acc => ⟨[],by simp [aF]⟩
 | n + 1,h,[],acc => ⟨[],by simp [aF]⟩
 | n + 1,h,i :: todo,acc => by
  unfold aF
  split
  ·exact nS n h todo acc
  ·split
   ·obtain ⟨q,hq⟩:=nS n h (todo ++ idsL _) (acc ++ [i]); exact ⟨i :: q,by rw [hq]; simp⟩
   ·obtain ⟨q,hq⟩:=nS n h (todo ++ idsL _) (acc ++ [i]); exact ⟨i :: q,by rw [hq]; simp⟩
   ·exact nS n h todo acc
   ·obtain ⟨q,hq⟩:=nS n h todo (acc ++ [i]); exact ⟨i :: q,by rw [hq]; simp⟩
   ·exact nS n h todo acc
theorem aQw {x y:D} {t:H} {l:List Nat}:fI 1 (.box [.d x,.d y] :: t) (0 :: l) = fI 0 (.box [.d x,.d y] :: t) (0 :: l):=by
 rw [uD,uD]
 have e1:gE (List.take 1 (O.box [.d x,.d y] :: t)) ++ 0 :: l = 0 :: l:=by simp [gE,idsL,idsA]
 have e2:gE (List.take 0 (O.box [.d x,.d y] :: t)) ++ 0 :: l = 0 :: l:=by simp [gE]
 have e3:List.range 1 = [0]:=rfl
 have e4:List.range 0 = ([]:List Nat):=rfl
 rw [e1,e2,e3,e4,show (1099511627776:Nat) = 1099511627775 + 1 from rfl,aNC,PC]
theorem aF9 {x y:D} {t:H} {l:List Nat}:fI 1 (.box [.d x,.d y] :: t) l = aF (aG + 1) (.box [.d x,.d y] :: t) (0 :: l) []:=by
 rw [uD,PC]
 have e1:gE (List.take 1 (O.box [.d x,.d y] :: t)) ++ l = l:=by simp [gE,idsL,idsA]
 have e3:List.range 1 = [0]:=rfl
 rw [e1,e3]
 rfl
theorem aRS {m:List Bool} {s:List A} {x y:D} {t:H} {l:List Nat} (hid:idsL (tidy m s) = 0 :: l):gc 1 m s (.box [.d x,.d y] :: t) = gc 0 m s (.box [.d x,.d y] :: t):=by
 unfold gc
 rw [hid,aQw]
 obtain ⟨q,hq⟩:=nS 1099511627775 (.box [.d x,.d y] :: t) l [0]
 have:fI 0 (.box [.d x,.d y] :: t) (0 :: l) = 0 :: q:=by
  rw [uD]
  have e2:gE (List.take 0 (O.box [.d x,.d y] :: t)) ++ 0 :: l = 0 :: l:=by simp [gE]
  have e4:List.range 0 = ([]:List Nat):=rfl
  rw [e2,e4,show (1099511627776:Nat) = 1099511627775 + 1 from rfl,PC,hq]
  rfl
 rw [this,aCO]
theorem R5 {m:List Bool} {s:List A} {x y:D} {t h:H} {l:List Nat} (hh:O.box [.d x,.d y] :: t = h) (hid:idsL (tidy m s) = 0 :: l):gc 1 m s h = gc 0 m s h:=by
 subst hh
 exact aRS hid
theorem aB5 {m:List Bool} {s:List A} {x y:D} {t h:H} {l ord:List Nat} (hh:O.box [.d x,.d y] :: t = h) (hi:idsL (tidy m s) = l) (hr:aF (aG + 1) h (0 :: l) [] = ord):gc 1 m s h = (aR 0 (pack h ord) (aH (aK ord) (tidy m s)),dU 0 (pack h ord)):=by
 subst hh
 unfold gc
 rw [hi,aF9,hr]
 obtain ⟨q,hq⟩:=nS aG (.box [.d x,.d y] :: t) l [0]
 have e:ord = 0 :: q:=by
  rw [← hr,PC,hq]
  rfl
 rw [e,aCO]
 rfl
def VO (n:Nat) (ids:List Nat):Bool:=decide (ids = [3,n + 8])
theorem aJh {n:Nat} {ke2:Nat} (he2:ke2 = n + 8):VO n [3,ke2] = true:=by subst he2; simp [VO]
def G5 (n i:Nat):Option Nat:=if i = 0 then some 0 else if i = 3 then some 1 else if i = n + 8 then some 2 else none
theorem aDS {n:Nat}:G5 n 3 = some (1):=by unfold G5; repeat (first | rfl | rw [if_pos rfl] | rw [if_neg (by omega)])
theorem aB6 {n k:Nat} (h:k = n + 8):G5 n k = some (2):=by subst h; unfold G5; repeat (first | rfl | rw [if_pos rfl] | rw [if_neg (by omega)])
theorem aRf {m:List Bool} {s:List A} {y1 y2 x0 x1:D} {k z:Nat} {cs:List D} {d:List (List Int)} (hl:d.length ≤ 4294967296):gc 1 m s (.box [.d y1,.d y2] :: .arr [] 0 0 :: .arr [] 0 0 :: .box [.d x0,.sl 1 0 0 0,.sl 2 0 0 0] :: .vec (aD 6 d ++ aI 0) 1 0 :: .arr cs 1 0 :: (aJ d ++ [.arr [] 0 0,.arr [] 0 0,.box [.d x1,.sl 4 0 0 k,.sl 5 0 0 z]])) = match box (tidy m s) with
  | .mk s1 => if VO d.length (idsL s1) = true ∧ z0As s1 = true then (aH (G5 d.length) s1,.box [.d y1,.d y2] :: .box [.d x0,.sl 3 0 0 0,.sl 4 0 0 0] :: .box [.d x1,.sl 5 0 0 k,.sl 6 0 0 z] :: .arr [] 0 0 :: .arr [] 0 0 :: .vec (aD 7 d ++ aI 0) 1 0 :: .arr cs 1 0 :: aJ d) else gcO 1 m s (.box [.d y1,.d y2] :: .arr [] 0 0 :: .arr [] 0 0 :: .box [.d x0,.sl 1 0 0 0,.sl 2 0 0 0] :: .vec (aD 6 d ++ aI 0) 1 0 :: .arr cs 1 0 :: (aJ d ++ [.arr [] 0 0,.arr [] 0 0,.box [.d x1,.sl 4 0 0 k,.sl 5 0 0 z]]))
  | .no => ([],[]):=by
 simp only [box]
 split
 ·rename_i hc
  obtain ⟨hb,hz⟩:=hc
  have hids:idsL (tidy m s) = [3,d.length + 8]:=by simpa [VO] using hb
  obtain ⟨h,hh⟩:∃ h:H,O.box [.d y1,.d y2] :: .arr [] 0 0 :: .arr [] 0 0 :: .box [.d x0,.sl 1 0 0 0,.sl 2 0 0 0] :: .vec (aD 6 d ++ aI 0) 1 0 :: .arr cs 1 0 :: (aJ d ++ [.arr [] 0 0,.arr [] 0 0,.box [.d x1,.sl 4 0 0 k,.sl 5 0 0 z]]) = h:=⟨_,rfl⟩
  conv => lhs; rw [hh]
  have g0:h[0]? = some (.box [.d y1,.d y2]):=by rw [← hh]; rfl
  have g1:h[1]? = some (.arr [] 0 0):=by rw [← hh]; rfl
  have g2:h[2]? = some (.arr [] 0 0):=by rw [← hh]; rfl
  have g3:h[3]? = some (.box [.d x0,.sl 1 0 0 0,.sl 2 0 0 0]):=by rw [← hh]; rfl
  have g4:h[4]? = some (.vec (aD 6 d ++ aI 0) 1 0):=by rw [← hh]; rfl
  have g5:h[5]? = some (.arr cs 1 0):=by rw [← hh]; rfl
  have hD:h.drop 6 = aJ d ++ [.arr [] 0 0,.arr [] 0 0,.box [.d x1,.sl 4 0 0 k,.sl 5 0 0 z]]:=by rw [← hh]; rfl
  have gr:=lA 6 hD
  have ge2:h[d.length + 8]? = some (.box [.d x1,.sl 4 0 0 k,.sl 5 0 0 z]):=yM 6 2 hD rfl (by omega)
  have k0:kids h (0) = []:=by simp [kids,g0,idsL,idsA]
  have k3:kids h (3) = [1,2]:=by simp [kids,g3,idsL,idsA]
  have ke2:kids h (d.length + 8) = [4,5]:=by simp [kids,ge2,idsL,idsA]
  have k1:kids h (1) = []:=bX g1
  have k2:kids h (2) = []:=bX g2
  have k4:kids h (4) = List.range' 6 d.length:=by simp [kids,g4,bY,dE,eH,idsL,idsA]
  have leaf:=mB gr
  have hr:aF (aG + 1) h [0,3,d.length + 8] [] = [0,3,d.length + 8,1,2,4] ++ ([5] ++ (List.range' 6 d.length ++ [])):=jW (by simp [k0,k3,ke2,k1,k2,k4]) (by intro q hq; simp only [List.length_cons,List.length_nil] at hq; have:q = 0 ∨ q = 1 ∨ q = 2 ∨ q = 3 ∨ q = 4 ∨ q = 5:=(by omega); rcases this with rfl | rfl | rfl | rfl | rfl | rfl <;> simp [k0,k3,ke2,k1,k2,k4]) leaf (by intro i hi; simp at hi; subst hi; exact ⟨_,_,_,by assumption⟩) (by intro i hi; simp at hi; rcases hi with rfl | rfl | rfl | rfl | rfl | rfl <;> exact ⟨_,by assumption,by simp⟩) (by simp <;> omega) (by intro i hi; simp at hi; omega) (by simp only [aG,List.length_cons,List.length_nil]; omega)
  generalize hord:[0,3,d.length + 8,1,2,4] ++ ([5] ++ (List.range' 6 d.length ++ [])) = ord at hr
  have hA:ord = ([0,3,d.length + 8,1,2,4] ++ [5]) ++ (List.range' 6 d.length ++ []):=by rw [← hord,List.append_assoc]
  have pk:∀ i j,ord[j]? = some i → aK ord i = some j:=fun i j h1 => fP (by rw [← hr]; exact cW (aG + 1) h _ [] (by simp)) h1
  have p0:=pk (0) 0 (by rw [← hord]; rfl)
  have p3:=pk (3) 1 (by rw [← hord]; rfl)
  have pe2:=pk (d.length + 8) 2 (by rw [← hord]; rfl)
  have p1:=pk (1) 3 (by rw [← hord]; rfl)
  have p2:=pk (2) 4 (by rw [← hord]; rfl)
  have p4:=pk (4) 5 (by rw [← hord]; rfl)
  have p5:=pk (5) 6 (by rw [← hord]; rfl)
  have pr:=lZ (C:=7) pk hA rfl
  obtain ⟨K,hK⟩:∃ K:H,O.box [.d y1,.d y2] :: .box [.d x0,.sl 3 0 0 0,.sl 4 0 0 0] :: .box [.d x1,.sl 5 0 0 k,.sl 6 0 0 z] :: .arr [] 0 0 :: .arr [] 0 0 :: .vec (aD 7 d ++ aI 0) 1 0 :: .arr cs 1 0 :: aJ d = K:=⟨_,rfl⟩
  have hni:∀ f,aH f (aI 0) = aI 0:=fun _ => rfl
  have hpk:pack h ord = K:=by
   have hrf:aH (aK ord) (aD 6 d) = aD 7 d:=iK (c:=0) pr
   rw [nW hA gr,← hK]
   simp only [List.cons_append,List.nil_append,List.map_cons,List.map_nil,List.getD_eq_getElem?_getD,g0,g3,ge2,g1,g2,g4,g5,Option.getD_some,mapO,aH,mapA,eQ,hrf,hni,p0,p3,pe2,p1,p2,p4,p5,List.append_nil]
  have hKD:K.drop 7 = aJ d ++ []:=by rw [← hK]; exact (List.append_nil _).symm
  have hgr:=qA hKD
  have hcm:dU 0 K = .box [.d y1,.d y2] :: .box [.d x0,.sl 3 0 0 0,.sl 4 0 0 0] :: .box [.d x1,.sl 5 0 0 k,.sl 6 0 0 z] :: .arr [] 0 0 :: .arr [] 0 0 :: .vec (aD 7 d ++ aI 0) 1 0 :: .arr cs 1 0 :: aJ d:=by
   have hrf:aR 0 K (aD 7 d) = aD 7 d:=jA hgr
   have hnc:∀ h:H,aR 0 h (aI 0) = aI 0:=fun _ => rfl
   have q3:a6 K 3 = some 0:=by rw [← hK]; rfl
   have q4:a6 K 4 = some 0:=by rw [← hK]; rfl
   have q5:a6 K 5 = some 0:=by rw [← hK]; rfl
   have q6:a6 K 6 = some 0:=by rw [← hK]; rfl
   unfold dU
   rw [jD]
   conv => lhs; arg 2; rw [← hK]
   simp only [List.map_cons,List.map_append,List.map_nil,c9,aR,bO,jL,iB,hrf,hnc,j6,q3,q4,q5,q6,Nat.not_lt_zero,if_false,if_true]
  subst hK
  rw [aB5 hh hids hr,hpk,hcm]
  have hmp:aH (aK ord) (tidy m s) = aH (G5 d.length) (tidy m s):=by
   apply nU
   rw [hids]
   intro i hi
   simp only [List.mem_cons,List.not_mem_nil,or_false] at hi
   rcases hi with rfl | rfl
   ·rw [p3,aDS]
   ·rw [pe2,aB6 rfl]
  have hz2:aR 0 (O.box [.d y1,.d y2] :: .box [.d x0,.sl 3 0 0 0,.sl 4 0 0 0] :: .box [.d x1,.sl 5 0 0 k,.sl 6 0 0 z] :: .arr [] 0 0 :: .arr [] 0 0 :: .vec (aD 7 d ++ aI 0) 1 0 :: .arr cs 1 0 :: aJ d) (aH (aK ord) (tidy m s)) = aH (aK ord) (tidy m s):=by
   exact nM (IA (by simp [z0O,z0As,z0A,CH,x6,xW,IF])) _ (zN _ hz)
  rw [hz2,hmp]
 ·rfl
def CT (n i:Nat):Option Nat:=if i = 0 then some 0 else if i = 1 then some 1 else if i = 2 then some 2 else none
theorem tA {n:Nat}:CT n 1 = some (1):=by unfold CT; repeat (first | rfl | rw [if_pos rfl] | rw [if_neg (by omega)])
theorem tC {n:Nat}:CT n 2 = some (2):=by unfold CT; repeat (first | rfl | rw [if_pos rfl] | rw [if_neg (by omega)])
theorem G3 {m:List Bool} {s:List A} {y1 y2 x0 x1:D} {k z:Nat} {cs:List D} {d:List (List Int)} (hl:d.length ≤ 4294967296):gc 1 m s (.box [.d y1,.d y2] :: .box [.d x0,.sl 3 0 0 0,.sl 4 0 0 0] :: .box [.d x1,.sl 5 0 0 k,.sl 6 0 0 z] :: .arr [] 0 0 :: .arr [] 0 0 :: .vec (aD 7 d ++ aI 0) 1 0 :: .arr cs 1 0 :: aJ d) = match box (tidy m s) with
  | .mk s1 => if idsL s1 = [1,2] ∧ z0As s1 = true then (aH (CT d.length) s1,.box [.d y1,.d y2] :: .box [.d x0,.sl 3 0 0 0,.sl 4 0 0 0] :: .box [.d x1,.sl 5 0 0 k,.sl 6 0 0 z] :: .arr [] 0 0 :: .arr [] 0 0 :: .vec (aD 7 d ++ aI 0) 1 0 :: .arr cs 1 0 :: aJ d) else gcO 1 m s (.box [.d y1,.d y2] :: .box [.d x0,.sl 3 0 0 0,.sl 4 0 0 0] :: .box [.d x1,.sl 5 0 0 k,.sl 6 0 0 z] :: .arr [] 0 0 :: .arr [] 0 0 :: .vec (aD 7 d ++ aI 0) 1 0 :: .arr cs 1 0 :: aJ d)
  | .no => ([],[]):=by
 simp only [box]
 split
 ·rename_i hc
  obtain ⟨hb,hz⟩:=hc
  have hids:idsL (tidy m s) = [1,2]:=by exact hb
  obtain ⟨h,hh⟩:∃ h:H,O.box [.d y1,.d y2] :: .box [.d x0,.sl 3 0 0 0,.sl 4 0 0 0] :: .box [.d x1,.sl 5 0 0 k,.sl 6 0 0 z] :: .arr [] 0 0 :: .arr [] 0 0 :: .vec (aD 7 d ++ aI 0) 1 0 :: .arr cs 1 0 :: aJ d = h:=⟨_,rfl⟩
  conv => lhs; rw [hh]
  have g0:h[0]? = some (.box [.d y1,.d y2]):=by rw [← hh]; rfl
  have g1:h[1]? = some (.box [.d x0,.sl 3 0 0 0,.sl 4 0 0 0]):=by rw [← hh]; rfl
  have g2:h[2]? = some (.box [.d x1,.sl 5 0 0 k,.sl 6 0 0 z]):=by rw [← hh]; rfl
  have g3:h[3]? = some (.arr [] 0 0):=by rw [← hh]; rfl
  have g4:h[4]? = some (.arr [] 0 0):=by rw [← hh]; rfl
  have g5:h[5]? = some (.vec (aD 7 d ++ aI 0) 1 0):=by rw [← hh]; rfl
  have g6:h[6]? = some (.arr cs 1 0):=by rw [← hh]; rfl
  have hD:h.drop 7 = aJ d ++ []:=by rw [← hh]; exact (List.append_nil _).symm
  have gr:=lA 7 hD
  have k0:kids h (0) = []:=by simp [kids,g0,idsL,idsA]
  have k1:kids h (1) = [3,4]:=by simp [kids,g1,idsL,idsA]
  have k2:kids h (2) = [5,6]:=by simp [kids,g2,idsL,idsA]
  have k3:kids h (3) = []:=bX g3
  have k4:kids h (4) = []:=bX g4
  have k5:kids h (5) = List.range' 7 d.length:=by simp [kids,g5,bY,dE,eH,idsL,idsA]
  have leaf:=mB gr
  have hr:aF (aG + 1) h [0,1,2] [] = [0,1,2,3,4,5] ++ ([6] ++ (List.range' 7 d.length ++ [])):=jW (by simp [k0,k1,k2,k3,k4,k5]) (by intro q hq; simp only [List.length_cons,List.length_nil] at hq; have:q = 0 ∨ q = 1 ∨ q = 2 ∨ q = 3 ∨ q = 4 ∨ q = 5:=(by omega); rcases this with rfl | rfl | rfl | rfl | rfl | rfl <;> simp [k0,k1,k2,k3,k4,k5]) leaf (by intro i hi; simp at hi; subst hi; exact ⟨_,_,_,by assumption⟩) (by intro i hi; simp at hi; rcases hi with rfl | rfl | rfl | rfl | rfl | rfl <;> exact ⟨_,by assumption,by simp⟩) (by simp <;> omega) (by intro i hi; simp at hi; omega) (by simp only [aG,List.length_cons,List.length_nil]; omega)
  generalize hord:[0,1,2,3,4,5] ++ ([6] ++ (List.range' 7 d.length ++ [])) = ord at hr
  have hA:ord = ([0,1,2,3,4,5] ++ [6]) ++ (List.range' 7 d.length ++ []):=by rw [← hord,List.append_assoc]
  have pk:∀ i j,ord[j]? = some i → aK ord i = some j:=fun i j h1 => fP (by rw [← hr]; exact cW (aG + 1) h _ [] (by simp)) h1
  have p0:=pk (0) 0 (by rw [← hord]; rfl)
  have p1:=pk (1) 1 (by rw [← hord]; rfl)
  have p2:=pk (2) 2 (by rw [← hord]; rfl)
  have p3:=pk (3) 3 (by rw [← hord]; rfl)
  have p4:=pk (4) 4 (by rw [← hord]; rfl)
  have p5:=pk (5) 5 (by rw [← hord]; rfl)
  have p6:=pk (6) 6 (by rw [← hord]; rfl)
  have pr:=lZ (C:=7) pk hA rfl
  obtain ⟨K,hK⟩:∃ K:H,O.box [.d y1,.d y2] :: .box [.d x0,.sl 3 0 0 0,.sl 4 0 0 0] :: .box [.d x1,.sl 5 0 0 k,.sl 6 0 0 z] :: .arr [] 0 0 :: .arr [] 0 0 :: .vec (aD 7 d ++ aI 0) 1 0 :: .arr cs 1 0 :: aJ d = K:=⟨_,rfl⟩
  have hni:∀ f,aH f (aI 0) = aI 0:=fun _ => rfl
  have hpk:pack h ord = K:=by
   have hrf:aH (aK ord) (aD 7 d) = aD 7 d:=iK (c:=0) pr
   rw [nW hA gr,← hK]
   simp only [List.cons_append,List.nil_append,List.map_cons,List.map_nil,List.getD_eq_getElem?_getD,g0,g1,g2,g3,g4,g5,g6,Option.getD_some,mapO,aH,mapA,eQ,hrf,hni,p0,p1,p2,p3,p4,p5,p6,List.append_nil]
  have hKD:K.drop 7 = aJ d ++ []:=by rw [← hK]; exact (List.append_nil _).symm
  have hgr:=qA hKD
  have hcm:dU 0 K = .box [.d y1,.d y2] :: .box [.d x0,.sl 3 0 0 0,.sl 4 0 0 0] :: .box [.d x1,.sl 5 0 0 k,.sl 6 0 0 z] :: .arr [] 0 0 :: .arr [] 0 0 :: .vec (aD 7 d ++ aI 0) 1 0 :: .arr cs 1 0 :: aJ d:=by
   have hrf:aR 0 K (aD 7 d) = aD 7 d:=jA hgr
   have hnc:∀ h:H,aR 0 h (aI 0) = aI 0:=fun _ => rfl
   have q3:a6 K 3 = some 0:=by rw [← hK]; rfl
   have q4:a6 K 4 = some 0:=by rw [← hK]; rfl
   have q5:a6 K 5 = some 0:=by rw [← hK]; rfl
   have q6:a6 K 6 = some 0:=by rw [← hK]; rfl
   unfold dU
   rw [jD]
   conv => lhs; arg 2; rw [← hK]
   simp only [List.map_cons,List.map_append,List.map_nil,c9,aR,bO,jL,iB,hrf,hnc,j6,q3,q4,q5,q6,Nat.not_lt_zero,if_false,if_true]
  subst hK
  rw [aB5 hh hids hr,hpk,hcm]
  have hmp:aH (aK ord) (tidy m s) = aH (CT d.length) (tidy m s):=by
   apply nU
   rw [hids]
   intro i hi
   simp only [List.mem_cons,List.not_mem_nil,or_false] at hi
   rcases hi with rfl | rfl
   ·rw [p1,tA]
   ·rw [p2,tC]
  have hz2:aR 0 (O.box [.d y1,.d y2] :: .box [.d x0,.sl 3 0 0 0,.sl 4 0 0 0] :: .box [.d x1,.sl 5 0 0 k,.sl 6 0 0 z] :: .arr [] 0 0 :: .arr [] 0 0 :: .vec (aD 7 d ++ aI 0) 1 0 :: .arr cs 1 0 :: aJ d) (aH (aK ord) (tidy m s)) = aH (aK ord) (tidy m s):=by
   exact nM (IA (by simp [z0O,z0As,z0A,CH,x6,xW,IF])) _ (zN _ hz)
  rw [hz2,hmp]
 ·rfl
theorem aQi {m:List Bool} {s:List A} {y1 y2 x0 x1:D} {k z:Nat} {r:List Int} {cs:List D} {d:List (List Int)} {p:H} (hl:d.length ≤ 4294967296):gc 1 m s (.box [.d y1,.d y2] :: .box [.d x0,.sl 4 0 0 0,.sl 5 0 0 0] :: .box [.d x1,.sl 6 1 0 k,.sl 7 1 0 z] :: .arr (ints r) 1 0 :: .arr [] 0 0 :: .arr [] 0 0 :: .vec (aD 8 d ++ [.sl 3 0 0 r.length]) 1 1 :: .arr cs 1 1 :: (aJ d ++ p)) = match box (tidy m s) with
  | .mk s1 => if idsL s1 = [0,1,2] then (aR 0 (.box [.d y1,.d y2] :: .box [.d x0,.sl 3 0 0 0,.sl 4 0 0 0] :: .box [.d x1,.sl 5 1 0 k,.sl 6 1 0 z] :: .arr [] 0 0 :: .arr [] 0 0 :: .vec (aD 7 d ++ [.sl (d.length + 7) 0 0 r.length]) 1 1 :: .arr cs 1 1 :: (aJ d ++ [.arr (ints r) 1 0])) (s1),.box [.d y1,.d y2] :: .box [.d x0,.sl 3 0 0 0,.sl 4 0 0 0] :: .box [.d x1,.sl 5 0 0 k,.sl 6 0 0 z] :: .arr [] 0 0 :: .arr [] 0 0 :: .vec (aD 7 d ++ [.sl (d.length + 7) 0 0 r.length]) 1 0 :: .arr cs 1 0 :: (aJ d ++ [.arr (ints r) 1 0])) else gcO 1 m s (.box [.d y1,.d y2] :: .box [.d x0,.sl 4 0 0 0,.sl 5 0 0 0] :: .box [.d x1,.sl 6 1 0 k,.sl 7 1 0 z] :: .arr (ints r) 1 0 :: .arr [] 0 0 :: .arr [] 0 0 :: .vec (aD 8 d ++ [.sl 3 0 0 r.length]) 1 1 :: .arr cs 1 1 :: (aJ d ++ p))
  | .no => ([],[]):=by
 simp only [box]
 split
 ·rename_i hc
  have hb:=hc
  have hids:idsL (tidy m s) = [0,1,2]:=by exact hb
  obtain ⟨h,hh⟩:∃ h:H,O.box [.d y1,.d y2] :: .box [.d x0,.sl 4 0 0 0,.sl 5 0 0 0] :: .box [.d x1,.sl 6 1 0 k,.sl 7 1 0 z] :: .arr (ints r) 1 0 :: .arr [] 0 0 :: .arr [] 0 0 :: .vec (aD 8 d ++ [.sl 3 0 0 r.length]) 1 1 :: .arr cs 1 1 :: (aJ d ++ p) = h:=⟨_,rfl⟩
  conv => lhs; rw [hh]
  have g0:h[0]? = some (.box [.d y1,.d y2]):=by rw [← hh]; rfl
  have g1:h[1]? = some (.box [.d x0,.sl 4 0 0 0,.sl 5 0 0 0]):=by rw [← hh]; rfl
  have g2:h[2]? = some (.box [.d x1,.sl 6 1 0 k,.sl 7 1 0 z]):=by rw [← hh]; rfl
  have g3:h[3]? = some (.arr (ints r) 1 0):=by rw [← hh]; rfl
  have g4:h[4]? = some (.arr [] 0 0):=by rw [← hh]; rfl
  have g5:h[5]? = some (.arr [] 0 0):=by rw [← hh]; rfl
  have g6:h[6]? = some (.vec (aD 8 d ++ [.sl 3 0 0 r.length]) 1 1):=by rw [← hh]; rfl
  have g7:h[7]? = some (.arr cs 1 1):=by rw [← hh]; rfl
  have hD:h.drop 8 = aJ d ++ p:=by rw [← hh]; rfl
  have gr:=lA 8 hD
  have k0:kids h (0) = []:=by simp [kids,g0,idsL,idsA]
  have k1:kids h (1) = [4,5]:=by simp [kids,g1,idsL,idsA]
  have k2:kids h (2) = [6,7]:=by simp [kids,g2,idsL,idsA]
  have k4:kids h (4) = []:=bX g4
  have k5:kids h (5) = []:=bX g5
  have k6:kids h (6) = List.range' 8 d.length ++ [3]:=by simp [kids,g6,bY,dE,eH,idsL,idsA]
  have leaf:=mB gr
  have hr:aF aG h [0,1,2] [] = [0,1,2,4,5,6] ++ ([7] ++ (List.range' 8 d.length ++ [3])):=jW (by simp [k0,k1,k2,k4,k5,k6]) (by intro q hq; simp only [List.length_cons,List.length_nil] at hq; have:q = 0 ∨ q = 1 ∨ q = 2 ∨ q = 3 ∨ q = 4 ∨ q = 5:=(by omega); rcases this with rfl | rfl | rfl | rfl | rfl | rfl <;> simp [k0,k1,k2,k4,k5,k6]) leaf (by intro i hi; simp at hi; rcases hi with rfl | rfl <;> exact ⟨_,_,_,by assumption⟩) (by intro i hi; simp at hi; rcases hi with rfl | rfl | rfl | rfl | rfl | rfl <;> exact ⟨_,by assumption,by simp⟩) (by simp <;> omega) (by intro i hi; simp at hi; omega) (by simp only [aG,List.length_cons,List.length_nil]; omega)
  generalize hord:[0,1,2,4,5,6] ++ ([7] ++ (List.range' 8 d.length ++ [3])) = ord at hr
  have hA:ord = ([0,1,2,4,5,6] ++ [7]) ++ (List.range' 8 d.length ++ [3]):=by rw [← hord,List.append_assoc]
  have pk:∀ i j,ord[j]? = some i → aK ord i = some j:=fun i j h1 => fP (by rw [← hr]; exact cW aG h _ [] (by simp)) h1
  have p0:=pk (0) 0 (by rw [← hord]; rfl)
  have p1:=pk (1) 1 (by rw [← hord]; rfl)
  have p2:=pk (2) 2 (by rw [← hord]; rfl)
  have p4:=pk (4) 3 (by rw [← hord]; rfl)
  have p5:=pk (5) 4 (by rw [← hord]; rfl)
  have p6:=pk (6) 5 (by rw [← hord]; rfl)
  have p7:=pk (7) 6 (by rw [← hord]; rfl)
  have pr:=lZ (C:=7) pk hA rfl
  have p3:=UC (C:=7) pk hA rfl 0 (i:=3) (j:=d.length + 7) rfl (by omega)
  obtain ⟨K,hK⟩:∃ K:H,O.box [.d y1,.d y2] :: .box [.d x0,.sl 3 0 0 0,.sl 4 0 0 0] :: .box [.d x1,.sl 5 1 0 k,.sl 6 1 0 z] :: .arr [] 0 0 :: .arr [] 0 0 :: .vec (aD 7 d ++ [.sl (d.length + 7) 0 0 r.length]) 1 1 :: .arr cs 1 1 :: (aJ d ++ [.arr (ints r) 1 0]) = K:=⟨_,rfl⟩
  have hni:∀ f,aH f (aI 0) = aI 0:=fun _ => rfl
  have hpk:pack h ord = K:=by
   have hrf:aH (aK ord) (aD 8 d) = aD 7 d:=iK (c:=0) pr
   rw [nW hA gr,← hK]
   simp only [List.cons_append,List.nil_append,List.map_cons,List.map_nil,List.getD_eq_getElem?_getD,g0,g1,g2,g4,g5,g6,g7,g3,Option.getD_some,mapO,aH,mapA,eQ,hrf,hni,p0,p1,p2,p4,p5,p6,p7,p3,List.append_nil]
  have hKD:K.drop 7 = aJ d ++ [.arr (ints r) 1 0]:=by rw [← hK]; rfl
  have hgr:=qA hKD
  have hge0:a6 K (d.length + 7) = some 0:=by simp only [a6,yM 7 0 hKD rfl (j:=d.length + 7) (by omega)]
  have hcm:dU 0 K = .box [.d y1,.d y2] :: .box [.d x0,.sl 3 0 0 0,.sl 4 0 0 0] :: .box [.d x1,.sl 5 0 0 k,.sl 6 0 0 z] :: .arr [] 0 0 :: .arr [] 0 0 :: .vec (aD 7 d ++ [.sl (d.length + 7) 0 0 r.length]) 1 0 :: .arr cs 1 0 :: (aJ d ++ [.arr (ints r) 1 0]):=by
   have hrf:aR 0 K (aD 7 d) = aD 7 d:=jA hgr
   have hnc:∀ h:H,aR 0 h (aI 0) = aI 0:=fun _ => rfl
   have q3:a6 K 3 = some 0:=by rw [← hK]; rfl
   have q4:a6 K 4 = some 0:=by rw [← hK]; rfl
   have q5:a6 K 5 = some 1:=by rw [← hK]; rfl
   have q6:a6 K 6 = some 1:=by rw [← hK]; rfl
   unfold dU
   rw [jD]
   conv => lhs; arg 2; rw [← hK]
   simp only [List.map_cons,List.map_append,List.map_nil,c9,aR,bO,jL,iB,hrf,hnc,j6,q3,q4,q5,q6,hge0,Nat.not_lt_zero,if_false,if_true]
  subst hK
  rw [R5 hh hids,O5 (ord:=ord) (by rw [hids]; exact hr),hpk,hcm]
  have hmp:aH (aK ord) (tidy m s) = tidy m s:=by
   apply jC
   rw [hids]
   intro i hi
   simp only [List.mem_cons,List.not_mem_nil,or_false] at hi
   rcases hi with rfl | rfl | rfl
   ·exact p0
   ·exact p1
   ·exact p2
  rw [hmp]
 ·rfl
theorem aQ4 {m:List Bool} {s:List A} {y1 y2 x0 x1:D} {k z:Nat} {cs:List D} {d:List (List Int)} (hl:d.length ≤ 4294967296):gc 1 m s (.box [.d y1,.d y2] :: .box [.d x0,.sl 3 0 0 0,.sl 4 0 0 0] :: .box [.d x1,.sl 5 0 0 k,.sl 6 0 0 z] :: .arr [] 0 0 :: .arr [] 0 0 :: .vec (aD 7 d ++ aI 0) 1 0 :: .arr cs 1 0 :: aJ d) = match box (tidy m s) with
  | .mk s1 => if idsL s1 = [0,1,2] then (aR 0 (.box [.d y1,.d y2] :: .box [.d x0,.sl 3 0 0 0,.sl 4 0 0 0] :: .box [.d x1,.sl 5 0 0 k,.sl 6 0 0 z] :: .arr [] 0 0 :: .arr [] 0 0 :: .vec (aD 7 d ++ aI 0) 1 0 :: .arr cs 1 0 :: aJ d) (s1),.box [.d y1,.d y2] :: .box [.d x0,.sl 3 0 0 0,.sl 4 0 0 0] :: .box [.d x1,.sl 5 0 0 k,.sl 6 0 0 z] :: .arr [] 0 0 :: .arr [] 0 0 :: .vec (aD 7 d ++ aI 0) 1 0 :: .arr cs 1 0 :: aJ d) else gcO 1 m s (.box [.d y1,.d y2] :: .box [.d x0,.sl 3 0 0 0,.sl 4 0 0 0] :: .box [.d x1,.sl 5 0 0 k,.sl 6 0 0 z] :: .arr [] 0 0 :: .arr [] 0 0 :: .vec (aD 7 d ++ aI 0) 1 0 :: .arr cs 1 0 :: aJ d)
  | .no => ([],[]):=by
 simp only [box]
 split
 ·rename_i hc
  have hb:=hc
  have hids:idsL (tidy m s) = [0,1,2]:=by exact hb
  obtain ⟨h,hh⟩:∃ h:H,O.box [.d y1,.d y2] :: .box [.d x0,.sl 3 0 0 0,.sl 4 0 0 0] :: .box [.d x1,.sl 5 0 0 k,.sl 6 0 0 z] :: .arr [] 0 0 :: .arr [] 0 0 :: .vec (aD 7 d ++ aI 0) 1 0 :: .arr cs 1 0 :: aJ d = h:=⟨_,rfl⟩
  conv => lhs; rw [hh]
  have g0:h[0]? = some (.box [.d y1,.d y2]):=by rw [← hh]; rfl
  have g1:h[1]? = some (.box [.d x0,.sl 3 0 0 0,.sl 4 0 0 0]):=by rw [← hh]; rfl
  have g2:h[2]? = some (.box [.d x1,.sl 5 0 0 k,.sl 6 0 0 z]):=by rw [← hh]; rfl
  have g3:h[3]? = some (.arr [] 0 0):=by rw [← hh]; rfl
  have g4:h[4]? = some (.arr [] 0 0):=by rw [← hh]; rfl
  have g5:h[5]? = some (.vec (aD 7 d ++ aI 0) 1 0):=by rw [← hh]; rfl
  have g6:h[6]? = some (.arr cs 1 0):=by rw [← hh]; rfl
  have hD:h.drop 7 = aJ d ++ []:=by rw [← hh]; exact (List.append_nil _).symm
  have gr:=lA 7 hD
  have k0:kids h (0) = []:=by simp [kids,g0,idsL,idsA]
  have k1:kids h (1) = [3,4]:=by simp [kids,g1,idsL,idsA]
  have k2:kids h (2) = [5,6]:=by simp [kids,g2,idsL,idsA]
  have k3:kids h (3) = []:=bX g3
  have k4:kids h (4) = []:=bX g4
  have k5:kids h (5) = List.range' 7 d.length:=by simp [kids,g5,bY,dE,eH,idsL,idsA]
  have leaf:=mB gr
  have hr:aF aG h [0,1,2] [] = [0,1,2,3,4,5] ++ ([6] ++ (List.range' 7 d.length ++ [])):=jW (by simp [k0,k1,k2,k3,k4,k5]) (by intro q hq; simp only [List.length_cons,List.length_nil] at hq; have:q = 0 ∨ q = 1 ∨ q = 2 ∨ q = 3 ∨ q = 4 ∨ q = 5:=(by omega); rcases this with rfl | rfl | rfl | rfl | rfl | rfl <;> simp [k0,k1,k2,k3,k4,k5]) leaf (by intro i hi; simp at hi; subst hi; exact ⟨_,_,_,by assumption⟩) (by intro i hi; simp at hi; rcases hi with rfl | rfl | rfl | rfl | rfl | rfl <;> exact ⟨_,by assumption,by simp⟩) (by simp <;> omega) (by intro i hi; simp at hi; omega) (by simp only [aG,List.length_cons,List.length_nil]; omega)
  generalize hord:[0,1,2,3,4,5] ++ ([6] ++ (List.range' 7 d.length ++ [])) = ord at hr
  have hA:ord = ([0,1,2,3,4,5] ++ [6]) ++ (List.range' 7 d.length ++ []):=by rw [← hord,List.append_assoc]
  have pk:∀ i j,ord[j]? = some i → aK ord i = some j:=fun i j h1 => fP (by rw [← hr]; exact cW aG h _ [] (by simp)) h1
  have p0:=pk (0) 0 (by rw [← hord]; rfl)
  have p1:=pk (1) 1 (by rw [← hord]; rfl)
  have p2:=pk (2) 2 (by rw [← hord]; rfl)
  have p3:=pk (3) 3 (by rw [← hord]; rfl)
  have p4:=pk (4) 4 (by rw [← hord]; rfl)
  have p5:=pk (5) 5 (by rw [← hord]; rfl)
  have p6:=pk (6) 6 (by rw [← hord]; rfl)
  have pr:=lZ (C:=7) pk hA rfl
  obtain ⟨K,hK⟩:∃ K:H,O.box [.d y1,.d y2] :: .box [.d x0,.sl 3 0 0 0,.sl 4 0 0 0] :: .box [.d x1,.sl 5 0 0 k,.sl 6 0 0 z] :: .arr [] 0 0 :: .arr [] 0 0 :: .vec (aD 7 d ++ aI 0) 1 0 :: .arr cs 1 0 :: aJ d = K:=⟨_,rfl⟩
  have hni:∀ f,aH f (aI 0) = aI 0:=fun _ => rfl
  have hpk:pack h ord = K:=by
   have hrf:aH (aK ord) (aD 7 d) = aD 7 d:=iK (c:=0) pr
   rw [nW hA gr,← hK]
   simp only [List.cons_append,List.nil_append,List.map_cons,List.map_nil,List.getD_eq_getElem?_getD,g0,g1,g2,g3,g4,g5,g6,Option.getD_some,mapO,aH,mapA,eQ,hrf,hni,p0,p1,p2,p3,p4,p5,p6,List.append_nil]
  have hKD:K.drop 7 = aJ d ++ []:=by rw [← hK]; exact (List.append_nil _).symm
  have hgr:=qA hKD
  have hcm:dU 0 K = .box [.d y1,.d y2] :: .box [.d x0,.sl 3 0 0 0,.sl 4 0 0 0] :: .box [.d x1,.sl 5 0 0 k,.sl 6 0 0 z] :: .arr [] 0 0 :: .arr [] 0 0 :: .vec (aD 7 d ++ aI 0) 1 0 :: .arr cs 1 0 :: aJ d:=by
   have hrf:aR 0 K (aD 7 d) = aD 7 d:=jA hgr
   have hnc:∀ h:H,aR 0 h (aI 0) = aI 0:=fun _ => rfl
   have q3:a6 K 3 = some 0:=by rw [← hK]; rfl
   have q4:a6 K 4 = some 0:=by rw [← hK]; rfl
   have q5:a6 K 5 = some 0:=by rw [← hK]; rfl
   have q6:a6 K 6 = some 0:=by rw [← hK]; rfl
   unfold dU
   rw [jD]
   conv => lhs; arg 2; rw [← hK]
   simp only [List.map_cons,List.map_append,List.map_nil,c9,aR,bO,jL,iB,hrf,hnc,j6,q3,q4,q5,q6,Nat.not_lt_zero,if_false,if_true]
  subst hK
  rw [R5 hh hids,O5 (ord:=ord) (by rw [hids]; exact hr),hpk,hcm]
  have hmp:aH (aK ord) (tidy m s) = tidy m s:=by
   apply jC
   rw [hids]
   intro i hi
   simp only [List.mem_cons,List.not_mem_nil,or_false] at hi
   rcases hi with rfl | rfl | rfl
   ·exact p0
   ·exact p1
   ·exact p2
  rw [hmp]
 ·rfl
theorem aH5 {m:List Bool} {s:List A} {y1 y2 x0 x1:D} {k z g:Nat} {cr cs:List D} {d:List (List Int)} {p:H} (hl:d.length ≤ 4294967296):gc 1 m s (.box [.d y1,.d y2] :: .box [.d x0,.sl 4 0 0 0,.sl 5 0 0 0] :: .box [.d x1,.sl 6 0 0 k,.sl 7 0 0 z] :: .arr cr 1 g :: .arr [] 0 0 :: .arr [] 0 0 :: .vec (aD 8 d ++ aI 0) 1 0 :: .arr cs 1 0 :: (aJ d ++ p)) = match box (tidy m s) with
  | .mk s1 => if idsL s1 = [0,1,2,3] then (aR 0 (.box [.d y1,.d y2] :: .box [.d x0,.sl 4 0 0 0,.sl 5 0 0 0] :: .box [.d x1,.sl 6 0 0 k,.sl 7 0 0 z] :: .arr cr 1 g :: .arr [] 0 0 :: .arr [] 0 0 :: .vec (aD 8 d ++ aI 0) 1 0 :: .arr cs 1 0 :: aJ d) (s1),.box [.d y1,.d y2] :: .box [.d x0,.sl 4 0 0 0,.sl 5 0 0 0] :: .box [.d x1,.sl 6 0 0 k,.sl 7 0 0 z] :: .arr cr 1 0 :: .arr [] 0 0 :: .arr [] 0 0 :: .vec (aD 8 d ++ aI 0) 1 0 :: .arr cs 1 0 :: aJ d) else gcO 1 m s (.box [.d y1,.d y2] :: .box [.d x0,.sl 4 0 0 0,.sl 5 0 0 0] :: .box [.d x1,.sl 6 0 0 k,.sl 7 0 0 z] :: .arr cr 1 g :: .arr [] 0 0 :: .arr [] 0 0 :: .vec (aD 8 d ++ aI 0) 1 0 :: .arr cs 1 0 :: (aJ d ++ p))
  | .no => ([],[]):=by
 simp only [box]
 split
 ·rename_i hc
  have hb:=hc
  have hids:idsL (tidy m s) = [0,1,2,3]:=by exact hb
  obtain ⟨h,hh⟩:∃ h:H,O.box [.d y1,.d y2] :: .box [.d x0,.sl 4 0 0 0,.sl 5 0 0 0] :: .box [.d x1,.sl 6 0 0 k,.sl 7 0 0 z] :: .arr cr 1 g :: .arr [] 0 0 :: .arr [] 0 0 :: .vec (aD 8 d ++ aI 0) 1 0 :: .arr cs 1 0 :: (aJ d ++ p) = h:=⟨_,rfl⟩
  conv => lhs; rw [hh]
  have g0:h[0]? = some (.box [.d y1,.d y2]):=by rw [← hh]; rfl
  have g1:h[1]? = some (.box [.d x0,.sl 4 0 0 0,.sl 5 0 0 0]):=by rw [← hh]; rfl
  have g2:h[2]? = some (.box [.d x1,.sl 6 0 0 k,.sl 7 0 0 z]):=by rw [← hh]; rfl
  have g3:h[3]? = some (.arr cr 1 g):=by rw [← hh]; rfl
  have g4:h[4]? = some (.arr [] 0 0):=by rw [← hh]; rfl
  have g5:h[5]? = some (.arr [] 0 0):=by rw [← hh]; rfl
  have g6:h[6]? = some (.vec (aD 8 d ++ aI 0) 1 0):=by rw [← hh]; rfl
  have g7:h[7]? = some (.arr cs 1 0):=by rw [← hh]; rfl
  have hD:h.drop 8 = aJ d ++ p:=by rw [← hh]; rfl
  have gr:=lA 8 hD
  have k0:kids h (0) = []:=by simp [kids,g0,idsL,idsA]
  have k1:kids h (1) = [4,5]:=by simp [kids,g1,idsL,idsA]
  have k2:kids h (2) = [6,7]:=by simp [kids,g2,idsL,idsA]
  have k3:kids h (3) = []:=bX g3
  have k4:kids h (4) = []:=bX g4
  have k5:kids h (5) = []:=bX g5
  have k6:kids h (6) = List.range' 8 d.length:=by simp [kids,g6,bY,dE,eH,idsL,idsA]
  have leaf:=mB gr
  have hr:aF aG h [0,1,2,3] [] = [0,1,2,3,4,5,6] ++ ([7] ++ (List.range' 8 d.length ++ [])):=jW (by simp [k0,k1,k2,k3,k4,k5,k6]) (by intro q hq; simp only [List.length_cons,List.length_nil] at hq; have:q = 0 ∨ q = 1 ∨ q = 2 ∨ q = 3 ∨ q = 4 ∨ q = 5 ∨ q = 6:=(by omega); rcases this with rfl | rfl | rfl | rfl | rfl | rfl | rfl <;> simp [k0,k1,k2,k3,k4,k5,k6]) leaf (by intro i hi; simp at hi; subst hi; exact ⟨_,_,_,by assumption⟩) (by intro i hi; simp at hi; rcases hi with rfl | rfl | rfl | rfl | rfl | rfl | rfl <;> exact ⟨_,by assumption,by simp⟩) (by simp <;> omega) (by intro i hi; simp at hi; omega) (by simp only [aG,List.length_cons,List.length_nil]; omega)
  generalize hord:[0,1,2,3,4,5,6] ++ ([7] ++ (List.range' 8 d.length ++ [])) = ord at hr
  have hA:ord = ([0,1,2,3,4,5,6] ++ [7]) ++ (List.range' 8 d.length ++ []):=by rw [← hord,List.append_assoc]
  have pk:∀ i j,ord[j]? = some i → aK ord i = some j:=fun i j h1 => fP (by rw [← hr]; exact cW aG h _ [] (by simp)) h1
  have p0:=pk (0) 0 (by rw [← hord]; rfl)
  have p1:=pk (1) 1 (by rw [← hord]; rfl)
  have p2:=pk (2) 2 (by rw [← hord]; rfl)
  have p3:=pk (3) 3 (by rw [← hord]; rfl)
  have p4:=pk (4) 4 (by rw [← hord]; rfl)
  have p5:=pk (5) 5 (by rw [← hord]; rfl)
  have p6:=pk (6) 6 (by rw [← hord]; rfl)
  have p7:=pk (7) 7 (by rw [← hord]; rfl)
  have pr:=lZ (C:=8) pk hA rfl
  obtain ⟨K,hK⟩:∃ K:H,O.box [.d y1,.d y2] :: .box [.d x0,.sl 4 0 0 0,.sl 5 0 0 0] :: .box [.d x1,.sl 6 0 0 k,.sl 7 0 0 z] :: .arr cr 1 g :: .arr [] 0 0 :: .arr [] 0 0 :: .vec (aD 8 d ++ aI 0) 1 0 :: .arr cs 1 0 :: aJ d = K:=⟨_,rfl⟩
  have hni:∀ f,aH f (aI 0) = aI 0:=fun _ => rfl
  have hpk:pack h ord = K:=by
   have hrf:aH (aK ord) (aD 8 d) = aD 8 d:=iK (c:=0) pr
   rw [nW hA gr,← hK]
   simp only [List.cons_append,List.nil_append,List.map_cons,List.map_nil,List.getD_eq_getElem?_getD,g0,g1,g2,g3,g4,g5,g6,g7,Option.getD_some,mapO,aH,mapA,eQ,hrf,hni,p0,p1,p2,p3,p4,p5,p6,p7,List.append_nil]
  have hKD:K.drop 8 = aJ d ++ []:=by rw [← hK]; exact (List.append_nil _).symm
  have hgr:=qA hKD
  have hcm:dU 0 K = .box [.d y1,.d y2] :: .box [.d x0,.sl 4 0 0 0,.sl 5 0 0 0] :: .box [.d x1,.sl 6 0 0 k,.sl 7 0 0 z] :: .arr cr 1 0 :: .arr [] 0 0 :: .arr [] 0 0 :: .vec (aD 8 d ++ aI 0) 1 0 :: .arr cs 1 0 :: aJ d:=by
   have hrf:aR 0 K (aD 8 d) = aD 8 d:=jA hgr
   have hnc:∀ h:H,aR 0 h (aI 0) = aI 0:=fun _ => rfl
   have q3:a6 K 3 = some g:=by rw [← hK]; rfl
   have q4:a6 K 4 = some 0:=by rw [← hK]; rfl
   have q5:a6 K 5 = some 0:=by rw [← hK]; rfl
   have q6:a6 K 6 = some 0:=by rw [← hK]; rfl
   have q7:a6 K 7 = some 0:=by rw [← hK]; rfl
   unfold dU
   rw [jD]
   conv => lhs; arg 2; rw [← hK]
   simp only [List.map_cons,List.map_append,List.map_nil,c9,aR,bO,jL,iB,hrf,hnc,j6,q3,q4,q5,q6,q7,Nat.not_lt_zero,if_false,if_true]
  subst hK
  rw [R5 hh hids,O5 (ord:=ord) (by rw [hids]; exact hr),hpk,hcm]
  have hmp:aH (aK ord) (tidy m s) = tidy m s:=by
   apply jC
   rw [hids]
   intro i hi
   simp only [List.mem_cons,List.not_mem_nil,or_false] at hi
   rcases hi with rfl | rfl | rfl | rfl
   ·exact p0
   ·exact p1
   ·exact p2
   ·exact p3
  rw [hmp]
 ·rfl
theorem aFV {m:List Bool} {s:List A} {y1 y2 x0 x1:D} {k z g:Nat} {cr cs:List D} {d:List (List Int)} (hl:d.length ≤ 4294967296):gc 1 m s (.box [.d y1,.d y2] :: .box [.d x0,.sl 4 0 0 0,.sl 5 0 0 0] :: .box [.d x1,.sl 6 0 0 k,.sl 7 0 0 z] :: .arr cr 1 g :: .arr [] 0 0 :: .arr [] 0 0 :: .vec (aD 8 d ++ aI 0) 1 0 :: .arr cs 1 0 :: aJ d) = match box (tidy m s) with
  | .mk s1 => if idsL s1 = [0,1,2,3] then (aR 0 (.box [.d y1,.d y2] :: .box [.d x0,.sl 4 0 0 0,.sl 5 0 0 0] :: .box [.d x1,.sl 6 0 0 k,.sl 7 0 0 z] :: .arr cr 1 g :: .arr [] 0 0 :: .arr [] 0 0 :: .vec (aD 8 d ++ aI 0) 1 0 :: .arr cs 1 0 :: aJ d) (s1),.box [.d y1,.d y2] :: .box [.d x0,.sl 4 0 0 0,.sl 5 0 0 0] :: .box [.d x1,.sl 6 0 0 k,.sl 7 0 0 z] :: .arr cr 1 0 :: .arr [] 0 0 :: .arr [] 0 0 :: .vec (aD 8 d ++ aI 0) 1 0 :: .arr cs 1 0 :: aJ d) else gcO 1 m s (.box [.d y1,.d y2] :: .box [.d x0,.sl 4 0 0 0,.sl 5 0 0 0] :: .box [.d x1,.sl 6 0 0 k,.sl 7 0 0 z] :: .arr cr 1 g :: .arr [] 0 0 :: .arr [] 0 0 :: .vec (aD 8 d ++ aI 0) 1 0 :: .arr cs 1 0 :: aJ d)
  | .no => ([],[]):=by
 simp only [box]
 split
 ·rename_i hc
  have hb:=hc
  have hids:idsL (tidy m s) = [0,1,2,3]:=by exact hb
  obtain ⟨h,hh⟩:∃ h:H,O.box [.d y1,.d y2] :: .box [.d x0,.sl 4 0 0 0,.sl 5 0 0 0] :: .box [.d x1,.sl 6 0 0 k,.sl 7 0 0 z] :: .arr cr 1 g :: .arr [] 0 0 :: .arr [] 0 0 :: .vec (aD 8 d ++ aI 0) 1 0 :: .arr cs 1 0 :: aJ d = h:=⟨_,rfl⟩
  conv => lhs; rw [hh]
  have g0:h[0]? = some (.box [.d y1,.d y2]):=by rw [← hh]; rfl
  have g1:h[1]? = some (.box [.d x0,.sl 4 0 0 0,.sl 5 0 0 0]):=by rw [← hh]; rfl
  have g2:h[2]? = some (.box [.d x1,.sl 6 0 0 k,.sl 7 0 0 z]):=by rw [← hh]; rfl
  have g3:h[3]? = some (.arr cr 1 g):=by rw [← hh]; rfl
  have g4:h[4]? = some (.arr [] 0 0):=by rw [← hh]; rfl
  have g5:h[5]? = some (.arr [] 0 0):=by rw [← hh]; rfl
  have g6:h[6]? = some (.vec (aD 8 d ++ aI 0) 1 0):=by rw [← hh]; rfl
  have g7:h[7]? = some (.arr cs 1 0):=by rw [← hh]; rfl
  have hD:h.drop 8 = aJ d ++ []:=by rw [← hh]; exact (List.append_nil _).symm
  have gr:=lA 8 hD
  have k0:kids h (0) = []:=by simp [kids,g0,idsL,idsA]
  have k1:kids h (1) = [4,5]:=by simp [kids,g1,idsL,idsA]
  have k2:kids h (2) = [6,7]:=by simp [kids,g2,idsL,idsA]
  have k3:kids h (3) = []:=bX g3
  have k4:kids h (4) = []:=bX g4
  have k5:kids h (5) = []:=bX g5
  have k6:kids h (6) = List.range' 8 d.length:=by simp [kids,g6,bY,dE,eH,idsL,idsA]
  have leaf:=mB gr
  have hr:aF aG h [0,1,2,3] [] = [0,1,2,3,4,5,6] ++ ([7] ++ (List.range' 8 d.length ++ [])):=jW (by simp [k0,k1,k2,k3,k4,k5,k6]) (by intro q hq; simp only [List.length_cons,List.length_nil] at hq; have:q = 0 ∨ q = 1 ∨ q = 2 ∨ q = 3 ∨ q = 4 ∨ q = 5 ∨ q = 6:=(by omega); rcases this with rfl | rfl | rfl | rfl | rfl | rfl | rfl <;> simp [k0,k1,k2,k3,k4,k5,k6]) leaf (by intro i hi; simp at hi; subst hi; exact ⟨_,_,_,by assumption⟩) (by intro i hi; simp at hi; rcases hi with rfl | rfl | rfl | rfl | rfl | rfl | rfl <;> exact ⟨_,by assumption,by simp⟩) (by simp <;> omega) (by intro i hi; simp at hi; omega) (by simp only [aG,List.length_cons,List.length_nil]; omega)
  generalize hord:[0,1,2,3,4,5,6] ++ ([7] ++ (List.range' 8 d.length ++ [])) = ord at hr
  have hA:ord = ([0,1,2,3,4,5,6] ++ [7]) ++ (List.range' 8 d.length ++ []):=by rw [← hord,List.append_assoc]
  have pk:∀ i j,ord[j]? = some i → aK ord i = some j:=fun i j h1 => fP (by rw [← hr]; exact cW aG h _ [] (by simp)) h1
  have p0:=pk (0) 0 (by rw [← hord]; rfl)
  have p1:=pk (1) 1 (by rw [← hord]; rfl)
  have p2:=pk (2) 2 (by rw [← hord]; rfl)
  have p3:=pk (3) 3 (by rw [← hord]; rfl)
  have p4:=pk (4) 4 (by rw [← hord]; rfl)
  have p5:=pk (5) 5 (by rw [← hord]; rfl)
  have p6:=pk (6) 6 (by rw [← hord]; rfl)
  have p7:=pk (7) 7 (by rw [← hord]; rfl)
  have pr:=lZ (C:=8) pk hA rfl
  obtain ⟨K,hK⟩:∃ K:H,O.box [.d y1,.d y2] :: .box [.d x0,.sl 4 0 0 0,.sl 5 0 0 0] :: .box [.d x1,.sl 6 0 0 k,.sl 7 0 0 z] :: .arr cr 1 g :: .arr [] 0 0 :: .arr [] 0 0 :: .vec (aD 8 d ++ aI 0) 1 0 :: .arr cs 1 0 :: aJ d = K:=⟨_,rfl⟩
  have hni:∀ f,aH f (aI 0) = aI 0:=fun _ => rfl
  have hpk:pack h ord = K:=by
   have hrf:aH (aK ord) (aD 8 d) = aD 8 d:=iK (c:=0) pr
   rw [nW hA gr,← hK]
   simp only [List.cons_append,List.nil_append,List.map_cons,List.map_nil,List.getD_eq_getElem?_getD,g0,g1,g2,g3,g4,g5,g6,g7,Option.getD_some,mapO,aH,mapA,eQ,hrf,hni,p0,p1,p2,p3,p4,p5,p6,p7,List.append_nil]
  have hKD:K.drop 8 = aJ d ++ []:=by rw [← hK]; exact (List.append_nil _).symm
  have hgr:=qA hKD
  have hcm:dU 0 K = .box [.d y1,.d y2] :: .box [.d x0,.sl 4 0 0 0,.sl 5 0 0 0] :: .box [.d x1,.sl 6 0 0 k,.sl 7 0 0 z] :: .arr cr 1 0 :: .arr [] 0 0 :: .arr [] 0 0 :: .vec (aD 8 d ++ aI 0) 1 0 :: .arr cs 1 0 :: aJ d:=by
   have hrf:aR 0 K (aD 8 d) = aD 8 d:=jA hgr
   have hnc:∀ h:H,aR 0 h (aI 0) = aI 0:=fun _ => rfl
   have q3:a6 K 3 = some g:=by rw [← hK]; rfl
   have q4:a6 K 4 = some 0:=by rw [← hK]; rfl
   have q5:a6 K 5 = some 0:=by rw [← hK]; rfl
   have q6:a6 K 6 = some 0:=by rw [← hK]; rfl
   have q7:a6 K 7 = some 0:=by rw [← hK]; rfl
   unfold dU
   rw [jD]
   conv => lhs; arg 2; rw [← hK]
   simp only [List.map_cons,List.map_append,List.map_nil,c9,aR,bO,jL,iB,hrf,hnc,j6,q3,q4,q5,q6,q7,Nat.not_lt_zero,if_false,if_true]
  subst hK
  rw [R5 hh hids,O5 (ord:=ord) (by rw [hids]; exact hr),hpk,hcm]
  have hmp:aH (aK ord) (tidy m s) = tidy m s:=by
   apply jC
   rw [hids]
   intro i hi
   simp only [List.mem_cons,List.not_mem_nil,or_false] at hi
   rcases hi with rfl | rfl | rfl | rfl
   ·exact p0
   ·exact p1
   ·exact p2
   ·exact p3
  rw [hmp]
 ·rfl
def KQ (n:Nat) (ids:List Nat):Bool:=decide (ids = [0,1,2,n + 7])
theorem aGm {n:Nat} {ke0:Nat} (he0:ke0 = n + 7):KQ n [0,1,2,ke0] = true:=by subst he0; simp [KQ]
def mD (n i:Nat):Option Nat:=if i = 0 then some 0 else if i = 1 then some 1 else if i = 2 then some 2 else if i = n + 7 then some 3 else none
theorem UY {n:Nat}:mD n 0 = some (0):=by unfold mD; repeat (first | rfl | rw [if_pos rfl] | rw [if_neg (by omega)])
theorem UI {n:Nat}:mD n 1 = some (1):=by unfold mD; repeat (first | rfl | rw [if_pos rfl] | rw [if_neg (by omega)])
theorem TC {n:Nat}:mD n 2 = some (2):=by unfold mD; repeat (first | rfl | rw [if_pos rfl] | rw [if_neg (by omega)])
theorem QU {n k:Nat} (h:k = n + 7):mD n k = some (3):=by subst h; unfold mD; repeat (first | rfl | rw [if_pos rfl] | rw [if_neg (by omega)])
theorem aQW {m:List Bool} {s:List A} {y1 y2 x0 x1:D} {k z:Nat} {cs:List D} {d:List (List Int)} {p:H} (hl:d.length ≤ 4294967296):gc 1 m s (.box [.d y1,.d y2] :: .box [.d x0,.sl 3 0 0 0,.sl 4 0 0 0] :: .box [.d x1,.sl 5 0 0 k,.sl 6 0 0 z] :: .arr [] 0 0 :: .arr [] 0 0 :: .vec (aD 7 d ++ aI 0) 1 0 :: .arr cs 1 0 :: (aJ d ++ .arr [] 1 0 :: p)) = match box (tidy m s) with
  | .mk s1 => if KQ d.length (idsL s1) = true then (aR 0 (.box [.d y1,.d y2] :: .box [.d x0,.sl 4 0 0 0,.sl 5 0 0 0] :: .box [.d x1,.sl 6 0 0 k,.sl 7 0 0 z] :: .arr [] 1 0 :: .arr [] 0 0 :: .arr [] 0 0 :: .vec (aD 8 d ++ aI 0) 1 0 :: .arr cs 1 0 :: aJ d) (aH (mD d.length) s1),.box [.d y1,.d y2] :: .box [.d x0,.sl 4 0 0 0,.sl 5 0 0 0] :: .box [.d x1,.sl 6 0 0 k,.sl 7 0 0 z] :: .arr [] 1 0 :: .arr [] 0 0 :: .arr [] 0 0 :: .vec (aD 8 d ++ aI 0) 1 0 :: .arr cs 1 0 :: aJ d) else gcO 1 m s (.box [.d y1,.d y2] :: .box [.d x0,.sl 3 0 0 0,.sl 4 0 0 0] :: .box [.d x1,.sl 5 0 0 k,.sl 6 0 0 z] :: .arr [] 0 0 :: .arr [] 0 0 :: .vec (aD 7 d ++ aI 0) 1 0 :: .arr cs 1 0 :: (aJ d ++ .arr [] 1 0 :: p))
  | .no => ([],[]):=by
 simp only [box]
 split
 ·rename_i hc
  have hb:=hc
  have hids:idsL (tidy m s) = [0,1,2,d.length + 7]:=by simpa [KQ] using hb
  obtain ⟨h,hh⟩:∃ h:H,O.box [.d y1,.d y2] :: .box [.d x0,.sl 3 0 0 0,.sl 4 0 0 0] :: .box [.d x1,.sl 5 0 0 k,.sl 6 0 0 z] :: .arr [] 0 0 :: .arr [] 0 0 :: .vec (aD 7 d ++ aI 0) 1 0 :: .arr cs 1 0 :: (aJ d ++ .arr [] 1 0 :: p) = h:=⟨_,rfl⟩
  conv => lhs; rw [hh]
  have g0:h[0]? = some (.box [.d y1,.d y2]):=by rw [← hh]; rfl
  have g1:h[1]? = some (.box [.d x0,.sl 3 0 0 0,.sl 4 0 0 0]):=by rw [← hh]; rfl
  have g2:h[2]? = some (.box [.d x1,.sl 5 0 0 k,.sl 6 0 0 z]):=by rw [← hh]; rfl
  have g3:h[3]? = some (.arr [] 0 0):=by rw [← hh]; rfl
  have g4:h[4]? = some (.arr [] 0 0):=by rw [← hh]; rfl
  have g5:h[5]? = some (.vec (aD 7 d ++ aI 0) 1 0):=by rw [← hh]; rfl
  have g6:h[6]? = some (.arr cs 1 0):=by rw [← hh]; rfl
  have hD:h.drop 7 = aJ d ++ (.arr [] 1 0 :: p):=by rw [← hh]; rfl
  have gr:=lA 7 hD
  have ge0:h[d.length + 7]? = some (.arr [] 1 0):=yM 7 0 hD rfl (by omega)
  have k0:kids h (0) = []:=by simp [kids,g0,idsL,idsA]
  have k1:kids h (1) = [3,4]:=by simp [kids,g1,idsL,idsA]
  have k2:kids h (2) = [5,6]:=by simp [kids,g2,idsL,idsA]
  have ke0:kids h (d.length + 7) = []:=bX ge0
  have k3:kids h (3) = []:=bX g3
  have k4:kids h (4) = []:=bX g4
  have k5:kids h (5) = List.range' 7 d.length:=by simp [kids,g5,bY,dE,eH,idsL,idsA]
  have leaf:=mB gr
  have hr:aF aG h [0,1,2,d.length + 7] [] = [0,1,2,d.length + 7,3,4,5] ++ ([6] ++ (List.range' 7 d.length ++ [])):=jW (by simp [k0,k1,k2,ke0,k3,k4,k5]) (by intro q hq; simp only [List.length_cons,List.length_nil] at hq; have:q = 0 ∨ q = 1 ∨ q = 2 ∨ q = 3 ∨ q = 4 ∨ q = 5 ∨ q = 6:=(by omega); rcases this with rfl | rfl | rfl | rfl | rfl | rfl | rfl <;> simp [k0,k1,k2,ke0,k3,k4,k5]) leaf (by intro i hi; simp at hi; subst hi; exact ⟨_,_,_,by assumption⟩) (by intro i hi; simp at hi; rcases hi with rfl | rfl | rfl | rfl | rfl | rfl | rfl <;> exact ⟨_,by assumption,by simp⟩) (by simp <;> omega) (by intro i hi; simp at hi; omega) (by simp only [aG,List.length_cons,List.length_nil]; omega)
  generalize hord:[0,1,2,d.length + 7,3,4,5] ++ ([6] ++ (List.range' 7 d.length ++ [])) = ord at hr
  have hA:ord = ([0,1,2,d.length + 7,3,4,5] ++ [6]) ++ (List.range' 7 d.length ++ []):=by rw [← hord,List.append_assoc]
  have pk:∀ i j,ord[j]? = some i → aK ord i = some j:=fun i j h1 => fP (by rw [← hr]; exact cW aG h _ [] (by simp)) h1
  have p0:=pk (0) 0 (by rw [← hord]; rfl)
  have p1:=pk (1) 1 (by rw [← hord]; rfl)
  have p2:=pk (2) 2 (by rw [← hord]; rfl)
  have pe0:=pk (d.length + 7) 3 (by rw [← hord]; rfl)
  have p3:=pk (3) 4 (by rw [← hord]; rfl)
  have p4:=pk (4) 5 (by rw [← hord]; rfl)
  have p5:=pk (5) 6 (by rw [← hord]; rfl)
  have p6:=pk (6) 7 (by rw [← hord]; rfl)
  have pr:=lZ (C:=8) pk hA rfl
  obtain ⟨K,hK⟩:∃ K:H,O.box [.d y1,.d y2] :: .box [.d x0,.sl 4 0 0 0,.sl 5 0 0 0] :: .box [.d x1,.sl 6 0 0 k,.sl 7 0 0 z] :: .arr [] 1 0 :: .arr [] 0 0 :: .arr [] 0 0 :: .vec (aD 8 d ++ aI 0) 1 0 :: .arr cs 1 0 :: aJ d = K:=⟨_,rfl⟩
  have hni:∀ f,aH f (aI 0) = aI 0:=fun _ => rfl
  have hpk:pack h ord = K:=by
   have hrf:aH (aK ord) (aD 7 d) = aD 8 d:=iK (c:=0) pr
   rw [nW hA gr,← hK]
   simp only [List.cons_append,List.nil_append,List.map_cons,List.map_nil,List.getD_eq_getElem?_getD,g0,g1,g2,ge0,g3,g4,g5,g6,Option.getD_some,mapO,aH,mapA,eQ,hrf,hni,p0,p1,p2,pe0,p3,p4,p5,p6,List.append_nil]
  have hKD:K.drop 8 = aJ d ++ []:=by rw [← hK]; exact (List.append_nil _).symm
  have hgr:=qA hKD
  have hcm:dU 0 K = .box [.d y1,.d y2] :: .box [.d x0,.sl 4 0 0 0,.sl 5 0 0 0] :: .box [.d x1,.sl 6 0 0 k,.sl 7 0 0 z] :: .arr [] 1 0 :: .arr [] 0 0 :: .arr [] 0 0 :: .vec (aD 8 d ++ aI 0) 1 0 :: .arr cs 1 0 :: aJ d:=by
   have hrf:aR 0 K (aD 8 d) = aD 8 d:=jA hgr
   have hnc:∀ h:H,aR 0 h (aI 0) = aI 0:=fun _ => rfl
   have q3:a6 K 3 = some 0:=by rw [← hK]; rfl
   have q4:a6 K 4 = some 0:=by rw [← hK]; rfl
   have q5:a6 K 5 = some 0:=by rw [← hK]; rfl
   have q6:a6 K 6 = some 0:=by rw [← hK]; rfl
   have q7:a6 K 7 = some 0:=by rw [← hK]; rfl
   unfold dU
   rw [jD]
   conv => lhs; arg 2; rw [← hK]
   simp only [List.map_cons,List.map_append,List.map_nil,c9,aR,bO,jL,iB,hrf,hnc,j6,q3,q4,q5,q6,q7,Nat.not_lt_zero,if_false,if_true]
  subst hK
  rw [R5 hh hids,O5 (ord:=ord) (by rw [hids]; exact hr),hpk,hcm]
  have hmp:aH (aK ord) (tidy m s) = aH (mD d.length) (tidy m s):=by
   apply nU
   rw [hids]
   intro i hi
   simp only [List.mem_cons,List.not_mem_nil,or_false] at hi
   rcases hi with rfl | rfl | rfl | rfl
   ·rw [p0,UY]
   ·rw [p1,UI]
   ·rw [p2,TC]
   ·rw [pe0,QU rfl]
  rw [hmp]
 ·rfl
def xS (n:Nat):List Nat:=[0,5,6] ++ (List.range' 7 n ++ [])
def HC (n i:Nat):Option Nat:=if i = 0 then some 0 else if i = 5 then some 1 else if i = 6 then some 2 else none
theorem aEw {n:Nat}:HC n 5 = some (1):=by unfold HC; repeat (first | rfl | rw [if_pos rfl] | rw [if_neg (by omega)])
theorem aDt {n:Nat}:HC n 6 = some (2):=by unfold HC; repeat (first | rfl | rw [if_pos rfl] | rw [if_neg (by omega)])
theorem aLN {y1 y2:D} {x0 x1 o3 o4:O} {cs:List D} {d:List (List Int)} (hl:d.length ≤ 4294967296) {ids:List Nat}:fI 1 (.box [.d y1,.d y2] :: x0 :: x1 :: o3 :: o4 :: .vec (aD 7 d ++ aI 0) 1 0 :: .arr cs 1 0 :: aJ d) ids = if ids = [5,6] then xS d.length else aPJ 1 (.box [.d y1,.d y2] :: x0 :: x1 :: o3 :: o4 :: .vec (aD 7 d ++ aI 0) 1 0 :: .arr cs 1 0 :: aJ d) ids:=by
 split
 ·rename_i hc
  subst hc
  rw [aF9]
  obtain ⟨h,hh⟩:∃ h:H,O.box [.d y1,.d y2] :: x0 :: x1 :: o3 :: o4 :: .vec (aD 7 d ++ aI 0) 1 0 :: .arr cs 1 0 :: aJ d = h:=⟨_,rfl⟩
  conv => lhs; rw [hh]
  have g0:h[0]? = some (.box [.d y1,.d y2]):=by rw [← hh]; rfl
  have g5:h[5]? = some (.vec (aD 7 d ++ aI 0) 1 0):=by rw [← hh]; rfl
  have g6:h[6]? = some (.arr cs 1 0):=by rw [← hh]; rfl
  have hD:h.drop 7 = aJ d ++ []:=by rw [← hh]; exact (List.append_nil _).symm
  have gr:=lA 7 hD
  have k0:kids h (0) = []:=by simp [kids,g0,idsL,idsA]
  have k5:kids h (5) = List.range' 7 d.length:=by simp [kids,g5,bY,dE,eH,idsL,idsA]
  have leaf:=mB gr
  have hr:aF (aG + 1) h [0,5,6] [] = [0,5] ++ ([6] ++ (List.range' 7 d.length ++ [])):=jW (by simp [k0,k5]) (by intro q hq; simp only [List.length_cons,List.length_nil] at hq; have:q = 0 ∨ q = 1:=(by omega); rcases this with rfl | rfl <;> simp [k0,k5]) leaf (by intro i hi; simp at hi; subst hi; exact ⟨_,_,_,by assumption⟩) (by intro i hi; simp at hi; rcases hi with rfl | rfl <;> exact ⟨_,by assumption,by simp⟩) (by simp <;> omega) (by intro i hi; simp at hi; omega) (by simp only [aG,List.length_cons,List.length_nil]; omega)
  generalize hord:[0,5] ++ ([6] ++ (List.range' 7 d.length ++ [])) = ord at hr
  rw [hr,← hord]
  rfl
 ·rfl
theorem aMU {y1 y2:D} {x0 x1 o3 o4:O} {cs:List D} {d:List (List Int)} (hl:d.length ≤ 4294967296) {s:List A}:trim 1 (.box [.d y1,.d y2] :: x0 :: x1 :: o3 :: o4 :: .vec (aD 7 d ++ aI 0) 1 0 :: .arr cs 1 0 :: aJ d) (xS d.length) s = if idsL s = [5,6] ∧ z0As s = true then (aH (HC d.length) s,.box [.d y1,.d y2] :: .vec (aD 3 d ++ aI 0) 1 0 :: .arr cs 1 0 :: aJ d) else aPo 1 (.box [.d y1,.d y2] :: x0 :: x1 :: o3 :: o4 :: .vec (aD 7 d ++ aI 0) 1 0 :: .arr cs 1 0 :: aJ d) (xS d.length) s:=by
 split
 ·rename_i hc
  obtain ⟨hids,hz⟩:=hc
  rw [show xS d.length = 0 :: (xS d.length).tail from rfl,aCO,show (0 :: (xS d.length).tail) = xS d.length from rfl]
  obtain ⟨h,hh⟩:∃ h:H,O.box [.d y1,.d y2] :: x0 :: x1 :: o3 :: o4 :: .vec (aD 7 d ++ aI 0) 1 0 :: .arr cs 1 0 :: aJ d = h:=⟨_,rfl⟩
  conv => lhs; rw [hh]
  have g0:h[0]? = some (.box [.d y1,.d y2]):=by rw [← hh]; rfl
  have g5:h[5]? = some (.vec (aD 7 d ++ aI 0) 1 0):=by rw [← hh]; rfl
  have g6:h[6]? = some (.arr cs 1 0):=by rw [← hh]; rfl
  have hD:h.drop 7 = aJ d ++ []:=by rw [← hh]; exact (List.append_nil _).symm
  have gr:=lA 7 hD
  have k0:kids h (0) = []:=by simp [kids,g0,idsL,idsA]
  have k5:kids h (5) = List.range' 7 d.length:=by simp [kids,g5,bY,dE,eH,idsL,idsA]
  have leaf:=mB gr
  have hr:aF aG h [0,5,6] [] = [0,5] ++ ([6] ++ (List.range' 7 d.length ++ [])):=jW (by simp [k0,k5]) (by intro q hq; simp only [List.length_cons,List.length_nil] at hq; have:q = 0 ∨ q = 1:=(by omega); rcases this with rfl | rfl <;> simp [k0,k5]) leaf (by intro i hi; simp at hi; subst hi; exact ⟨_,_,_,by assumption⟩) (by intro i hi; simp at hi; rcases hi with rfl | rfl <;> exact ⟨_,by assumption,by simp⟩) (by simp <;> omega) (by intro i hi; simp at hi; omega) (by simp only [aG,List.length_cons,List.length_nil]; omega)
  generalize hord:[0,5] ++ ([6] ++ (List.range' 7 d.length ++ [])) = ord at hr
  have hA:ord = ([0,5] ++ [6]) ++ (List.range' 7 d.length ++ []):=by rw [← hord,List.append_assoc]
  have pk:∀ i j,ord[j]? = some i → aK ord i = some j:=fun i j h1 => fP (by rw [← hr]; exact cW aG h _ [] (by simp)) h1
  have p0:=pk (0) 0 (by rw [← hord]; rfl)
  have p5:=pk (5) 1 (by rw [← hord]; rfl)
  have p6:=pk (6) 2 (by rw [← hord]; rfl)
  have pr:=lZ (C:=3) pk hA rfl
  obtain ⟨K,hK⟩:∃ K:H,O.box [.d y1,.d y2] :: .vec (aD 3 d ++ aI 0) 1 0 :: .arr cs 1 0 :: aJ d = K:=⟨_,rfl⟩
  have hni:∀ f,aH f (aI 0) = aI 0:=fun _ => rfl
  have hpk:pack h ord = K:=by
   have hrf:aH (aK ord) (aD 7 d) = aD 3 d:=iK (c:=0) pr
   rw [nW hA gr,← hK]
   simp only [List.cons_append,List.nil_append,List.map_cons,List.map_nil,List.getD_eq_getElem?_getD,g0,g5,g6,Option.getD_some,mapO,aH,mapA,eQ,hrf,hni,p0,p5,p6,List.append_nil]
  have hKD:K.drop 3 = aJ d ++ []:=by rw [← hK]; exact (List.append_nil _).symm
  have hgr:=qA hKD
  have hcm:dU 0 K = .box [.d y1,.d y2] :: .vec (aD 3 d ++ aI 0) 1 0 :: .arr cs 1 0 :: aJ d:=by
   have hrf:aR 0 K (aD 3 d) = aD 3 d:=jA hgr
   have hnc:∀ h:H,aR 0 h (aI 0) = aI 0:=fun _ => rfl
   have q1:a6 K 1 = some 0:=by rw [← hK]; rfl
   have q2:a6 K 2 = some 0:=by rw [← hK]; rfl
   unfold dU
   rw [jD]
   conv => lhs; arg 2; rw [← hK]
   simp only [List.map_cons,List.map_append,List.map_nil,c9,aR,bO,jL,iB,hrf,hnc,j6,q1,q2,Nat.not_lt_zero,if_false,if_true]
  subst hK
  have hoo:xS d.length = ord:=by rw [← hord]; rfl
  unfold trim
  rw [hoo,hpk,hcm]
  have hz2:aR 0 (O.box [.d y1,.d y2] :: .vec (aD 3 d ++ aI 0) 1 0 :: .arr cs 1 0 :: aJ d) (aH (aK ord) s) = aH (aK ord) s:=by
   exact nM (IA (by simp [z0O,z0As,z0A,CH,x6,xW,IF])) _ (zN _ hz)
  have hmp:aH (aK ord) s = aH (HC d.length) s:=by
   apply nU
   rw [hids]
   intro i hi
   simp only [List.mem_cons,List.not_mem_nil,or_false] at hi
   rcases hi with rfl | rfl
   ·rw [p5,aEw]
   ·rw [p6,aDt]
  rw [hz2,hmp]
 ·rfl
theorem aRJ {m:List Bool} {s:List A} {a1 a2 a3 x0 x1:D} {k z:Nat} {r:List Int} {cs:List D} {d:List (List Int)} {p:H} (hl:d.length ≤ 4294967296):gc 0 m s (.box [.d a1,.d a2,.d a3] :: .box [.d x0,.sl 3 0 0 0,.sl 4 0 0 0] :: .box [.d x1,.sl 5 1 0 k,.sl 6 0 0 z] :: .arr [] 0 0 :: .arr [] 0 0 :: .vec (aD 7 d ++ [.sl (d.length + 7) 1 0 r.length]) 1 1 :: .arr cs 1 0 :: (aJ d ++ .arr (ints r) 1 1 :: p)) = match box (tidy m s) with
  | .mk s1 => if idsL s1 = [0,1,2] then (aR 0 (.box [.d a1,.d a2,.d a3] :: .box [.d x0,.sl 3 0 0 0,.sl 4 0 0 0] :: .box [.d x1,.sl 5 1 0 k,.sl 6 0 0 z] :: .arr [] 0 0 :: .arr [] 0 0 :: .vec (aD 7 d ++ [.sl (d.length + 7) 1 0 r.length]) 1 1 :: .arr cs 1 0 :: (aJ d ++ [.arr (ints r) 1 1])) (s1),.box [.d a1,.d a2,.d a3] :: .box [.d x0,.sl 3 0 0 0,.sl 4 0 0 0] :: .box [.d x1,.sl 5 0 0 k,.sl 6 0 0 z] :: .arr [] 0 0 :: .arr [] 0 0 :: .vec (aD 7 d ++ [.sl (d.length + 7) 0 0 r.length]) 1 0 :: .arr cs 1 0 :: (aJ d ++ [.arr (ints r) 1 0])) else gcO 0 m s (.box [.d a1,.d a2,.d a3] :: .box [.d x0,.sl 3 0 0 0,.sl 4 0 0 0] :: .box [.d x1,.sl 5 1 0 k,.sl 6 0 0 z] :: .arr [] 0 0 :: .arr [] 0 0 :: .vec (aD 7 d ++ [.sl (d.length + 7) 1 0 r.length]) 1 1 :: .arr cs 1 0 :: (aJ d ++ .arr (ints r) 1 1 :: p))
  | .no => ([],[]):=by
 simp only [box]
 split
 ·rename_i hc
  have hb:=hc
  have hids:idsL (tidy m s) = [0,1,2]:=by exact hb
  obtain ⟨h,hh⟩:∃ h:H,O.box [.d a1,.d a2,.d a3] :: .box [.d x0,.sl 3 0 0 0,.sl 4 0 0 0] :: .box [.d x1,.sl 5 1 0 k,.sl 6 0 0 z] :: .arr [] 0 0 :: .arr [] 0 0 :: .vec (aD 7 d ++ [.sl (d.length + 7) 1 0 r.length]) 1 1 :: .arr cs 1 0 :: (aJ d ++ .arr (ints r) 1 1 :: p) = h:=⟨_,rfl⟩
  conv => lhs; rw [hh]
  have g0:h[0]? = some (.box [.d a1,.d a2,.d a3]):=by rw [← hh]; rfl
  have g1:h[1]? = some (.box [.d x0,.sl 3 0 0 0,.sl 4 0 0 0]):=by rw [← hh]; rfl
  have g2:h[2]? = some (.box [.d x1,.sl 5 1 0 k,.sl 6 0 0 z]):=by rw [← hh]; rfl
  have g3:h[3]? = some (.arr [] 0 0):=by rw [← hh]; rfl
  have g4:h[4]? = some (.arr [] 0 0):=by rw [← hh]; rfl
  have g5:h[5]? = some (.vec (aD 7 d ++ [.sl (d.length + 7) 1 0 r.length]) 1 1):=by rw [← hh]; rfl
  have g6:h[6]? = some (.arr cs 1 0):=by rw [← hh]; rfl
  have hD:h.drop 7 = aJ d ++ (.arr (ints r) 1 1 :: p):=by rw [← hh]; rfl
  have gr:=lA 7 hD
  have ge0:h[d.length + 7]? = some (.arr (ints r) 1 1):=yM 7 0 hD rfl (by omega)
  have k0:kids h (0) = []:=by simp [kids,g0,idsL,idsA]
  have k1:kids h (1) = [3,4]:=by simp [kids,g1,idsL,idsA]
  have k2:kids h (2) = [5,6]:=by simp [kids,g2,idsL,idsA]
  have k3:kids h (3) = []:=bX g3
  have k4:kids h (4) = []:=bX g4
  have k5:kids h (5) = List.range' 7 d.length ++ [d.length + 7]:=by simp [kids,g5,bY,dE,eH,idsL,idsA]
  have leaf:=mB gr
  have hr:aF aG h [0,1,2] [] = [0,1,2,3,4,5] ++ ([6] ++ (List.range' 7 d.length ++ [d.length + 7])):=jW (by simp [k0,k1,k2,k3,k4,k5]) (by intro q hq; simp only [List.length_cons,List.length_nil] at hq; have:q = 0 ∨ q = 1 ∨ q = 2 ∨ q = 3 ∨ q = 4 ∨ q = 5:=(by omega); rcases this with rfl | rfl | rfl | rfl | rfl | rfl <;> simp [k0,k1,k2,k3,k4,k5]) leaf (by intro i hi; simp at hi; rcases hi with rfl | rfl <;> exact ⟨_,_,_,by assumption⟩) (by intro i hi; simp at hi; rcases hi with rfl | rfl | rfl | rfl | rfl | rfl <;> exact ⟨_,by assumption,by simp⟩) (by simp <;> omega) (by intro i hi; simp at hi; omega) (by simp only [aG,List.length_cons,List.length_nil]; omega)
  generalize hord:[0,1,2,3,4,5] ++ ([6] ++ (List.range' 7 d.length ++ [d.length + 7])) = ord at hr
  have hA:ord = ([0,1,2,3,4,5] ++ [6]) ++ (List.range' 7 d.length ++ [d.length + 7]):=by rw [← hord,List.append_assoc]
  have pk:∀ i j,ord[j]? = some i → aK ord i = some j:=fun i j h1 => fP (by rw [← hr]; exact cW aG h _ [] (by simp)) h1
  have p0:=pk (0) 0 (by rw [← hord]; rfl)
  have p1:=pk (1) 1 (by rw [← hord]; rfl)
  have p2:=pk (2) 2 (by rw [← hord]; rfl)
  have p3:=pk (3) 3 (by rw [← hord]; rfl)
  have p4:=pk (4) 4 (by rw [← hord]; rfl)
  have p5:=pk (5) 5 (by rw [← hord]; rfl)
  have p6:=pk (6) 6 (by rw [← hord]; rfl)
  have pr:=lZ (C:=7) pk hA rfl
  have pe0:=UC (C:=7) pk hA rfl 0 (i:=d.length + 7) (j:=d.length + 7) rfl (by omega)
  obtain ⟨K,hK⟩:∃ K:H,O.box [.d a1,.d a2,.d a3] :: .box [.d x0,.sl 3 0 0 0,.sl 4 0 0 0] :: .box [.d x1,.sl 5 1 0 k,.sl 6 0 0 z] :: .arr [] 0 0 :: .arr [] 0 0 :: .vec (aD 7 d ++ [.sl (d.length + 7) 1 0 r.length]) 1 1 :: .arr cs 1 0 :: (aJ d ++ [.arr (ints r) 1 1]) = K:=⟨_,rfl⟩
  have hni:∀ f,aH f (aI 0) = aI 0:=fun _ => rfl
  have hpk:pack h ord = K:=by
   have hrf:aH (aK ord) (aD 7 d) = aD 7 d:=iK (c:=0) pr
   rw [nW hA gr,← hK]
   simp only [List.cons_append,List.nil_append,List.map_cons,List.map_nil,List.getD_eq_getElem?_getD,g0,g1,g2,g3,g4,g5,g6,ge0,Option.getD_some,mapO,aH,mapA,eQ,hrf,hni,p0,p1,p2,p3,p4,p5,p6,pe0,List.append_nil]
  have hKD:K.drop 7 = aJ d ++ [.arr (ints r) 1 1]:=by rw [← hK]; rfl
  have hgr:=qA hKD
  have hge0:a6 K (d.length + 7) = some 1:=by simp only [a6,yM 7 0 hKD rfl (j:=d.length + 7) (by omega)]
  have hcm:dU 0 K = .box [.d a1,.d a2,.d a3] :: .box [.d x0,.sl 3 0 0 0,.sl 4 0 0 0] :: .box [.d x1,.sl 5 0 0 k,.sl 6 0 0 z] :: .arr [] 0 0 :: .arr [] 0 0 :: .vec (aD 7 d ++ [.sl (d.length + 7) 0 0 r.length]) 1 0 :: .arr cs 1 0 :: (aJ d ++ [.arr (ints r) 1 0]):=by
   have hrf:aR 0 K (aD 7 d) = aD 7 d:=jA hgr
   have hnc:∀ h:H,aR 0 h (aI 0) = aI 0:=fun _ => rfl
   have q3:a6 K 3 = some 0:=by rw [← hK]; rfl
   have q4:a6 K 4 = some 0:=by rw [← hK]; rfl
   have q5:a6 K 5 = some 1:=by rw [← hK]; rfl
   have q6:a6 K 6 = some 0:=by rw [← hK]; rfl
   unfold dU
   rw [jD]
   conv => lhs; arg 2; rw [← hK]
   simp only [List.map_cons,List.map_append,List.map_nil,c9,aR,bO,jL,iB,hrf,hnc,j6,q3,q4,q5,q6,hge0,Nat.not_lt_zero,if_false,if_true]
  subst hK
  rw [O5 (ord:=ord) (by rw [hids]; exact hr),hpk,hcm]
  have hmp:aH (aK ord) (tidy m s) = tidy m s:=by
   apply jC
   rw [hids]
   intro i hi
   simp only [List.mem_cons,List.not_mem_nil,or_false] at hi
   rcases hi with rfl | rfl | rfl
   ·exact p0
   ·exact p1
   ·exact p2
  rw [hmp]
 ·rfl
theorem aRm {m:List Bool} {s:List A} {a1 a2 a3 x0 x1:D} {k z:Nat} {cs:List D} {d:List (List Int)} (hl:d.length ≤ 4294967296):gc 0 m s (.box [.d a1,.d a2,.d a3] :: .box [.d x0,.sl 3 0 0 0,.sl 4 0 0 0] :: .box [.d x1,.sl 5 0 0 k,.sl 6 0 0 z] :: .arr [] 0 0 :: .arr [] 0 0 :: .vec (aD 7 d ++ aI 0) 1 0 :: .arr cs 1 0 :: aJ d) = match box (tidy m s) with
  | .mk s1 => if idsL s1 = [0,1,2] then (aR 0 (.box [.d a1,.d a2,.d a3] :: .box [.d x0,.sl 3 0 0 0,.sl 4 0 0 0] :: .box [.d x1,.sl 5 0 0 k,.sl 6 0 0 z] :: .arr [] 0 0 :: .arr [] 0 0 :: .vec (aD 7 d ++ aI 0) 1 0 :: .arr cs 1 0 :: aJ d) (s1),.box [.d a1,.d a2,.d a3] :: .box [.d x0,.sl 3 0 0 0,.sl 4 0 0 0] :: .box [.d x1,.sl 5 0 0 k,.sl 6 0 0 z] :: .arr [] 0 0 :: .arr [] 0 0 :: .vec (aD 7 d ++ aI 0) 1 0 :: .arr cs 1 0 :: aJ d) else gcO 0 m s (.box [.d a1,.d a2,.d a3] :: .box [.d x0,.sl 3 0 0 0,.sl 4 0 0 0] :: .box [.d x1,.sl 5 0 0 k,.sl 6 0 0 z] :: .arr [] 0 0 :: .arr [] 0 0 :: .vec (aD 7 d ++ aI 0) 1 0 :: .arr cs 1 0 :: aJ d)
  | .no => ([],[]):=by
 simp only [box]
 split
 ·rename_i hc
  have hb:=hc
  have hids:idsL (tidy m s) = [0,1,2]:=by exact hb
  obtain ⟨h,hh⟩:∃ h:H,O.box [.d a1,.d a2,.d a3] :: .box [.d x0,.sl 3 0 0 0,.sl 4 0 0 0] :: .box [.d x1,.sl 5 0 0 k,.sl 6 0 0 z] :: .arr [] 0 0 :: .arr [] 0 0 :: .vec (aD 7 d ++ aI 0) 1 0 :: .arr cs 1 0 :: aJ d = h:=⟨_,rfl⟩
  conv => lhs; rw [hh]
  have g0:h[0]? = some (.box [.d a1,.d a2,.d a3]):=by rw [← hh]; rfl
  have g1:h[1]? = some (.box [.d x0,.sl 3 0 0 0,.sl 4 0 0 0]):=by rw [← hh]; rfl
  have g2:h[2]? = some (.box [.d x1,.sl 5 0 0 k,.sl 6 0 0 z]):=by rw [← hh]; rfl
  have g3:h[3]? = some (.arr [] 0 0):=by rw [← hh]; rfl
  have g4:h[4]? = some (.arr [] 0 0):=by rw [← hh]; rfl
  have g5:h[5]? = some (.vec (aD 7 d ++ aI 0) 1 0):=by rw [← hh]; rfl
  have g6:h[6]? = some (.arr cs 1 0):=by rw [← hh]; rfl
  have hD:h.drop 7 = aJ d ++ []:=by rw [← hh]; exact (List.append_nil _).symm
  have gr:=lA 7 hD
  have k0:kids h (0) = []:=by simp [kids,g0,idsL,idsA]
  have k1:kids h (1) = [3,4]:=by simp [kids,g1,idsL,idsA]
  have k2:kids h (2) = [5,6]:=by simp [kids,g2,idsL,idsA]
  have k3:kids h (3) = []:=bX g3
  have k4:kids h (4) = []:=bX g4
  have k5:kids h (5) = List.range' 7 d.length:=by simp [kids,g5,bY,dE,eH,idsL,idsA]
  have leaf:=mB gr
  have hr:aF aG h [0,1,2] [] = [0,1,2,3,4,5] ++ ([6] ++ (List.range' 7 d.length ++ [])):=jW (by simp [k0,k1,k2,k3,k4,k5]) (by intro q hq; simp only [List.length_cons,List.length_nil] at hq; have:q = 0 ∨ q = 1 ∨ q = 2 ∨ q = 3 ∨ q = 4 ∨ q = 5:=(by omega); rcases this with rfl | rfl | rfl | rfl | rfl | rfl <;> simp [k0,k1,k2,k3,k4,k5]) leaf (by intro i hi; simp at hi; subst hi; exact ⟨_,_,_,by assumption⟩) (by intro i hi; simp at hi; rcases hi with rfl | rfl | rfl | rfl | rfl | rfl <;> exact ⟨_,by assumption,by simp⟩) (by simp <;> omega) (by intro i hi; simp at hi; omega) (by simp only [aG,List.length_cons,List.length_nil]; omega)
  generalize hord:[0,1,2,3,4,5] ++ ([6] ++ (List.range' 7 d.length ++ [])) = ord at hr
  have hA:ord = ([0,1,2,3,4,5] ++ [6]) ++ (List.range' 7 d.length ++ []):=by rw [← hord,List.append_assoc]
  have pk:∀ i j,ord[j]? = some i → aK ord i = some j:=fun i j h1 => fP (by rw [← hr]; exact cW aG h _ [] (by simp)) h1
  have p0:=pk (0) 0 (by rw [← hord]; rfl)
  have p1:=pk (1) 1 (by rw [← hord]; rfl)
  have p2:=pk (2) 2 (by rw [← hord]; rfl)
  have p3:=pk (3) 3 (by rw [← hord]; rfl)
  have p4:=pk (4) 4 (by rw [← hord]; rfl)
  have p5:=pk (5) 5 (by rw [← hord]; rfl)
  have p6:=pk (6) 6 (by rw [← hord]; rfl)
  have pr:=lZ (C:=7) pk hA rfl
  obtain ⟨K,hK⟩:∃ K:H,O.box [.d a1,.d a2,.d a3] :: .box [.d x0,.sl 3 0 0 0,.sl 4 0 0 0] :: .box [.d x1,.sl 5 0 0 k,.sl 6 0 0 z] :: .arr [] 0 0 :: .arr [] 0 0 :: .vec (aD 7 d ++ aI 0) 1 0 :: .arr cs 1 0 :: aJ d = K:=⟨_,rfl⟩
  have hni:∀ f,aH f (aI 0) = aI 0:=fun _ => rfl
  have hpk:pack h ord = K:=by
   have hrf:aH (aK ord) (aD 7 d) = aD 7 d:=iK (c:=0) pr
   rw [nW hA gr,← hK]
   simp only [List.cons_append,List.nil_append,List.map_cons,List.map_nil,List.getD_eq_getElem?_getD,g0,g1,g2,g3,g4,g5,g6,Option.getD_some,mapO,aH,mapA,eQ,hrf,hni,p0,p1,p2,p3,p4,p5,p6,List.append_nil]
  have hKD:K.drop 7 = aJ d ++ []:=by rw [← hK]; exact (List.append_nil _).symm
  have hgr:=qA hKD
  have hcm:dU 0 K = .box [.d a1,.d a2,.d a3] :: .box [.d x0,.sl 3 0 0 0,.sl 4 0 0 0] :: .box [.d x1,.sl 5 0 0 k,.sl 6 0 0 z] :: .arr [] 0 0 :: .arr [] 0 0 :: .vec (aD 7 d ++ aI 0) 1 0 :: .arr cs 1 0 :: aJ d:=by
   have hrf:aR 0 K (aD 7 d) = aD 7 d:=jA hgr
   have hnc:∀ h:H,aR 0 h (aI 0) = aI 0:=fun _ => rfl
   have q3:a6 K 3 = some 0:=by rw [← hK]; rfl
   have q4:a6 K 4 = some 0:=by rw [← hK]; rfl
   have q5:a6 K 5 = some 0:=by rw [← hK]; rfl
   have q6:a6 K 6 = some 0:=by rw [← hK]; rfl
   unfold dU
   rw [jD]
   conv => lhs; arg 2; rw [← hK]
   simp only [List.map_cons,List.map_append,List.map_nil,c9,aR,bO,jL,iB,hrf,hnc,j6,q3,q4,q5,q6,Nat.not_lt_zero,if_false,if_true]
  subst hK
  rw [O5 (ord:=ord) (by rw [hids]; exact hr),hpk,hcm]
  have hmp:aH (aK ord) (tidy m s) = tidy m s:=by
   apply jC
   rw [hids]
   intro i hi
   simp only [List.mem_cons,List.not_mem_nil,or_false] at hi
   rcases hi with rfl | rfl | rfl
   ·exact p0
   ·exact p1
   ·exact p2
  rw [hmp]
 ·rfl
def VL (n:Nat):List Nat:=[5,6] ++ (List.range' 7 n ++ [])
def HB (n i:Nat):Option Nat:=if i = 5 then some 0 else if i = 6 then some 1 else none
theorem aDz {n:Nat}:HB n 5 = some (0):=by unfold HB; repeat (first | rfl | rw [if_pos rfl] | rw [if_neg (by omega)])
theorem aEp {n:Nat}:HB n 6 = some (1):=by unfold HB; repeat (first | rfl | rw [if_pos rfl] | rw [if_neg (by omega)])
theorem aNN {o0 x0 x1:O} {o3 o4:O} {cs:List D} {d:List (List Int)} (hl:d.length ≤ 4294967296) {ids:List Nat}:fI 0 (o0 :: x0 :: x1 :: o3 :: o4 :: .vec (aD 7 d ++ aI 0) 1 0 :: .arr cs 1 0 :: aJ d) ids = if ids = [5,6] then VL d.length else aPJ 0 (o0 :: x0 :: x1 :: o3 :: o4 :: .vec (aD 7 d ++ aI 0) 1 0 :: .arr cs 1 0 :: aJ d) ids:=by
 split
 ·rename_i hc
  subst hc
  obtain ⟨h,hh⟩:∃ h:H,o0 :: x0 :: x1 :: o3 :: o4 :: .vec (aD 7 d ++ aI 0) 1 0 :: .arr cs 1 0 :: aJ d = h:=⟨_,rfl⟩
  conv => lhs; rw [hh]
  have g5:h[5]? = some (.vec (aD 7 d ++ aI 0) 1 0):=by rw [← hh]; rfl
  have g6:h[6]? = some (.arr cs 1 0):=by rw [← hh]; rfl
  have hD:h.drop 7 = aJ d ++ []:=by rw [← hh]; exact (List.append_nil _).symm
  have gr:=lA 7 hD
  have k5:kids h (5) = List.range' 7 d.length:=by simp [kids,g5,bY,dE,eH,idsL,idsA]
  have leaf:=mB gr
  have hr:aF aG h [5,6] [] = [5] ++ ([6] ++ (List.range' 7 d.length ++ [])):=jW (by simp [k5]) (by intro q hq; simp only [List.length_cons,List.length_nil] at hq; have:q = 0:=(by omega); rcases this with rfl <;> simp [k5]) leaf (by intro i hi; simp at hi; subst hi; exact ⟨_,_,_,by assumption⟩) (by intro i hi; simp at hi; subst hi; exact ⟨_,by assumption,by simp⟩) (by simp <;> omega) (by intro i hi; simp at hi; omega) (by simp only [aG,List.length_cons,List.length_nil]; omega)
  generalize hord:[5] ++ ([6] ++ (List.range' 7 d.length ++ [])) = ord at hr
  rw [y9]
  unfold aG at hr
  rw [hr,← hord]
  rfl
 ·rfl
theorem aOj {o0 x0 x1:O} {o3 o4:O} {cs:List D} {d:List (List Int)} (hl:d.length ≤ 4294967296) {s:List A}:trim 0 (o0 :: x0 :: x1 :: o3 :: o4 :: .vec (aD 7 d ++ aI 0) 1 0 :: .arr cs 1 0 :: aJ d) (VL d.length) s = if idsL s = [5,6] ∧ z0As s = true then (aH (HB d.length) s,.vec (aD 2 d ++ aI 0) 1 0 :: .arr cs 1 0 :: aJ d) else aPo 0 (o0 :: x0 :: x1 :: o3 :: o4 :: .vec (aD 7 d ++ aI 0) 1 0 :: .arr cs 1 0 :: aJ d) (VL d.length) s:=by
 split
 ·rename_i hc
  obtain ⟨hids,hz⟩:=hc
  obtain ⟨h,hh⟩:∃ h:H,o0 :: x0 :: x1 :: o3 :: o4 :: .vec (aD 7 d ++ aI 0) 1 0 :: .arr cs 1 0 :: aJ d = h:=⟨_,rfl⟩
  conv => lhs; rw [hh]
  have g5:h[5]? = some (.vec (aD 7 d ++ aI 0) 1 0):=by rw [← hh]; rfl
  have g6:h[6]? = some (.arr cs 1 0):=by rw [← hh]; rfl
  have hD:h.drop 7 = aJ d ++ []:=by rw [← hh]; exact (List.append_nil _).symm
  have gr:=lA 7 hD
  have k5:kids h (5) = List.range' 7 d.length:=by simp [kids,g5,bY,dE,eH,idsL,idsA]
  have leaf:=mB gr
  have hr:aF aG h [5,6] [] = [5] ++ ([6] ++ (List.range' 7 d.length ++ [])):=jW (by simp [k5]) (by intro q hq; simp only [List.length_cons,List.length_nil] at hq; have:q = 0:=(by omega); rcases this with rfl <;> simp [k5]) leaf (by intro i hi; simp at hi; subst hi; exact ⟨_,_,_,by assumption⟩) (by intro i hi; simp at hi; subst hi; exact ⟨_,by assumption,by simp⟩) (by simp <;> omega) (by intro i hi; simp at hi; omega) (by simp only [aG,List.length_cons,List.length_nil]; omega)
  generalize hord:[5] ++ ([6] ++ (List.range' 7 d.length ++ [])) = ord at hr
  have hA:ord = ([5] ++ [6]) ++ (List.range' 7 d.length ++ []):=by rw [← hord,List.append_assoc]
  have pk:∀ i j,ord[j]? = some i → aK ord i = some j:=fun i j h1 => fP (by rw [← hr]; exact cW aG h _ [] (by simp)) h1
  have p5:=pk (5) 0 (by rw [← hord]; rfl)
  have p6:=pk (6) 1 (by rw [← hord]; rfl)
  have pr:=lZ (C:=2) pk hA rfl
  obtain ⟨K,hK⟩:∃ K:H,O.vec (aD 2 d ++ aI 0) 1 0 :: .arr cs 1 0 :: aJ d = K:=⟨_,rfl⟩
  have hni:∀ f,aH f (aI 0) = aI 0:=fun _ => rfl
  have hpk:pack h ord = K:=by
   have hrf:aH (aK ord) (aD 7 d) = aD 2 d:=iK (c:=0) pr
   rw [nW hA gr,← hK]
   simp only [List.cons_append,List.nil_append,List.map_cons,List.map_nil,List.getD_eq_getElem?_getD,g5,g6,Option.getD_some,mapO,aH,mapA,eQ,hrf,hni,p5,p6,List.append_nil]
  have hKD:K.drop 2 = aJ d ++ []:=by rw [← hK]; exact (List.append_nil _).symm
  have hgr:=qA hKD
  have hcm:dU 0 K = .vec (aD 2 d ++ aI 0) 1 0 :: .arr cs 1 0 :: aJ d:=by
   have hrf:aR 0 K (aD 2 d) = aD 2 d:=jA hgr
   have hnc:∀ h:H,aR 0 h (aI 0) = aI 0:=fun _ => rfl
   have q0:a6 K 0 = some 0:=by rw [← hK]; rfl
   have q1:a6 K 1 = some 0:=by rw [← hK]; rfl
   unfold dU
   rw [jD]
   conv => lhs; arg 2; rw [← hK]
   simp only [List.map_cons,List.map_append,List.map_nil,c9,aR,bO,jL,iB,hrf,hnc,j6,q0,q1,Nat.not_lt_zero,if_false,if_true]
  subst hK
  have hoo:VL d.length = ord:=by rw [← hord]; rfl
  unfold trim
  rw [hoo,hpk,hcm]
  have hz2:aR 0 (O.vec (aD 2 d ++ aI 0) 1 0 :: .arr cs 1 0 :: aJ d) (aH (aK ord) s) = aH (aK ord) s:=by
   exact nM (IA (by simp [z0O,z0As,z0A,CH,x6,xW,IF])) _ (zN _ hz)
  have hmp:aH (aK ord) s = aH (HB d.length) s:=by
   apply nU
   rw [hids]
   intro i hi
   simp only [List.mem_cons,List.not_mem_nil,or_false] at hi
   rcases hi with rfl | rfl
   ·rw [p5,aDz]
   ·rw [p6,aEp]
  rw [hz2,hmp]
 ·rfl


section
section
variable {h:H} {a b c d:O}
theorem aOp:(h ++ [a,b,c])[h.length + 1 + 1]? = some c:=by
 rw [List.getElem?_append_right (by omega),show h.length + 1 + 1 - h.length = 2 by omega]
 rfl
theorem aNd:(h ++ [a,b,c]).set (h.length + 1 + 1) d = h ++ [a,b,d]:=by
 rw [List.set_append_right _ _ (by omega),show h.length + 1 + 1 - h.length = 2 by omega]
 rfl
end
theorem aN2 {a b:Foot} (ha:a.ro = true) (hb:b.ro = true):oX a b = false:=by
 unfold oX
 rw [ha,hb]
 rfl
section
variable {L n:Nat} {h:H} {al:Int} {rs:List (List Int)} {ac:List Bool}
end
end
theorem GS {f:Nat → Option Nat}:∀ (k:Nat) (cs:List A),(aH f cs).take k = aH f (cs.take k)
 | 0,cs => by simp [aH]
 | k + 1,[] => by simp [aH]
 | k + 1,c :: cs => by simp only [aH,List.take_succ_cons,GS k cs]
theorem OZ {f:Nat → Option Nat}:∀ (k:Nat) (cs:List A),(aH f cs).drop k = aH f (cs.drop k)
 | 0,cs => rfl
 | k + 1,[] => by simp [aH]
 | k + 1,c :: cs => by simp only [aH,List.drop_succ_cons,OZ k cs]
theorem aHf {h:H} {ord ids:List Nat} {id k:Nat} {o:O} (hc:closed h ord ids = true) (hn:ord.Nodup) (hl:∀ i ∈ ord,i < h.length) (hk:aK ord id = some k) :
  bG (fun (k:Nat) => ord[k]?) h ord ((pack h ord).set k o) = h.set id (mapO (fun (k:Nat) => ord[k]?) o):=by
 have hpl:(pack h ord).length = ord.length:=by simp [pack]
 have hid:=hl id (L8 hk)
 apply List.ext_getElem?
 intro i
 rw [DD _ ord h _ i hn hl (by simp [pack])]
 cases hp:aK ord i with
 | none =>
  have hne:id ≠ i:=fun e => by rw [e,hp] at hk; cases hk
  rw [List.getElem?_set_ne hne]
  simp only []
  split
  ·rfl
  ·rename_i hge
   rw [List.getElem?_eq_none (by simp [pack]),List.getElem?_eq_none (by omega)]
   rfl
 | some q =>
  simp only []
  by_cases hqk:q = k
  ·subst hqk
   have h1:=bE hp
   have h2:=bE hk
   rw [h1] at h2
   obtain rfl:i = id:=Option.some.inj h2
   rw [List.getElem?_set_self (by rw [hpl]; exact CP hp),List.getElem?_set_self hid]
   rfl
  ·have hne:id ≠ i:=fun e => by rw [e,hp] at hk; exact hqk (Option.some.inj hk)
   rw [List.getElem?_set_ne (fun e => hqk e.symm),List.getElem?_set_ne hne]
   have hm:=L8 hp
   obtain ⟨x,hx⟩:∃ x,h[i]? = some x:=⟨h[i]'(hl i hm),List.getElem?_eq_getElem _⟩
   rw [kZ (bE hp) hx,hx,Option.map_some,U5 hc hm hx]
theorem HJ {E:Env} {call:a7} {thaw:List Nat} {dst:Option Tmp} {op:Op} {h:H} {vs:List A} {a a2:A} {o o2:O} {id k:Nat} {ord:List Nat} (hord:aF aG h (idsL vs) [] = ord) (hc:closed h ord (idsL vs) = true) (hk:aK ord id = some k) (hro:fN E op vs = false)
  (hev:evOp E call thaw (pack h ord) (gC dst op) (aH (aK ord) vs) = some (a,(pack h ord).set k o)) (ha:mapA (fun (k:Nat) => ord[k]?) a = a2) (ho:mapO (fun (k:Nat) => ord[k]?) o = o2) :
  memD E call thaw dst op h vs = some (a2,h.set id o2,{ ids:=ord,ro:=false,wr:=wrOf E op vs ord }):=by
 have hn:ord.Nodup:=by rw [← hord]; exact cW aG h (idsL vs) [] (by simp)
 have hl:∀ i ∈ ord,i < h.length:=by rw [← hord]; exact nE aG h (idsL vs) [] (by simp)
 have hpl:((pack h ord).set k o).length = ord.length:=by simp [pack]
 unfold memD
 rw [hord]
 simp only [box,hev,hpl,Nat.le_refl,hc,and_self,if_true,hro,Bool.false_and,Bool.false_eq_true,if_false,aDG,Nat.sub_self]
 rw [aHf hc hn hl hk,ha,ho]
 simp
theorem aD4 {E:Env} {call:a7} {thaw:List Nat} {dst:Option Tmp} {args:Array Operand} {t e:TypeId} {h:H} {id id2 g g2 len:Nat} {cs:List A} {c:A} (he:bB E.P t = some e) (hce:E.P.cellsOf e = 1) (hel:bJ E.P e = true)
  (h1:h[id]? = some (.vec cs 1 g)) (h2:h[id2]? = some (.vec [c] 1 g2)) (hlen:len ≤ cs.length) (hmax:len + 1 ≤ bW) (ok1:Okay h id) (ok2:Okay h id2) (hw:2 + wgt h ≤ 1099511627776) :
  memD E call thaw dst (.call ⟨.builtin .append,args,#[t,t]⟩) h [.sl id g 0 len,.sl id2 g2 0 1] = some (.sl id (g + 1) 0 (len + 1),h.set id (.vec (cs.take len ++ [c]) 1 (g + 1)),{ ids:=aF aG h [id,id2] [],ro:=false,wr:=[id] }):=by
 have hids:idsL [A.sl id g 0 len,A.sl id2 g2 0 1] = [id,id2]:=rfl
 obtain ⟨c1,c2,c3⟩:=SQ (h:=h) (ids:=[id,id2]) (by intro i hi; simp at hi; rcases hi with rfl | rfl; exact ok1; exact ok2) (by simpa using hw)
 obtain ⟨ord,hord⟩:∃ ord,aF aG h [id,id2] [] = ord:=⟨_,rfl⟩
 rw [hord] at c1 c2 c3
 obtain ⟨k,hk⟩:=dF (c2 id (by simp))
 obtain ⟨k2,hk2⟩:=dF (c2 id2 (by simp))
 have p1:=kZ (h:=h) (bE hk) h1
 have p2:=kZ (h:=h) (bE hk2) h2
 have kid:∀ i,i ∈ ord → ∀ q ∈ kids h i,∃ j,aK ord q = some j:=fun i hi q hq => dF (c3 i hi q hq)
 have bk:∀ xs:List A,(∀ i ∈ idsL xs,i ∈ ord) → aH (fun (k:Nat) => ord[k]?) (aH (aK ord) xs) = xs:=by
  intro xs hx
  rw [pD (q:=fun i => (aK ord i).bind fun k => ord[k]?) (fun _ => rfl)]
  apply jC
  intro i hi
  obtain ⟨j,hj⟩:=dF (hx i hi)
  simp only [hj,Option.bind_some]
  exact bE hj
 have hcs:∀ i ∈ idsL cs,i ∈ ord:=by
  have:=c3 id (c2 id (by simp))
  simpa only [kids,h1] using this
 have hcc:∀ i ∈ idsL [c],i ∈ ord:=by
  have:=c3 id2 (c2 id2 (by simp))
  simpa only [kids,h2] using this
 have hnew:∀ i ∈ idsL (cs.take len ++ [c]),i ∈ ord:=by
  intro i hi
  rw [bY,List.mem_append] at hi
  rcases hi with hi | hi
  ·refine hcs i ?_
   have:=List.take_append_drop len cs
   rw [← this,bY,List.mem_append]
   exact .inl hi
  ·exact hcc i hi
 have hmt:(aH (aK ord) cs).take len = aH (aK ord) (cs.take len):=GS len cs
 have key:=HJ (E:=E) (call:=call) (thaw:=thaw) (dst:=dst) (op:=.call ⟨.builtin .append,args,#[t,t]⟩) (h:=h) (vs:=[A.sl id g 0 len,A.sl id2 g2 0 1]) (a:=.sl k (g + 1) 0 (len + 1)) (a2:=.sl id (g + 1) 0 (len + 1)) (o:=.vec (aH (aK ord) (cs.take len ++ [c])) 1 (g + 1)) (o2:=.vec (cs.take len ++ [c]) 1 (g + 1)) (id:=id) (k:=k) (ord:=ord) (by rw [hids]; exact hord) (by rw [hids]; exact c1) hk rfl ?_ (by simp only [mapA,bE hk]) (by simp only [mapO,bk _ hnew])
 ·rw [key,hord]
  rfl
 ·have hu:E.P.underlying t = some (.slice e):=by
   unfold bB at he
   split at he
   ·rename_i hq; cases he; exact hq
   ·cases he
  have hv:GV (pack h ord) k = true:=by simp only [GV,p1,mapO]
  have hs:j3 (pack h ord) 1 (.sl k2 g2 0 1) = some (1,aH (aK ord) [c]):=by
   simp [j3,p2,mapO,aH]
  simp only [aH,mapA,hk,hk2,evOp,gC,fE,c4,jZ,hv,if_true,qU,he,hel,hce,hs,p1,mapO,true_and,or_true,Nat.mul_one,EJ,hlen,hmax,and_self,hmt,eQ,hu]
theorem MV {E:Env} {call:a7} {thaw:List Nat} {dst:Option Tmp} {x y:Operand} {t:TypeId} {h:H} {id id2 off g o len:Nat} {cs:List A} (ht:E.P.cellsOf t = 1) (hi:(E.P.info? t).isSome = true)
  (h1:h[id]? = some (.box cs)) (hoff:off + 1 ≤ cs.length) (ok1:Okay h id) (ok2:Okay h id2) (hw:2 + wgt h ≤ 1099511627776) :
  memD E call thaw dst (.store t x y) h [.ptr id 0 off,.sl id2 g o len] = some (.d .undef,h.set id (.box (bS cs off [.sl id2 g o len])),{ ids:=aF aG h [id,id2] [],ro:=false,wr:=aF aG h [id,id2] [] }):=by
 have hids:idsL [A.ptr id 0 off,A.sl id2 g o len] = [id,id2]:=rfl
 obtain ⟨c1,c2,c3⟩:=SQ (h:=h) (ids:=[id,id2]) (by intro i hi; simp at hi; rcases hi with rfl | rfl; exact ok1; exact ok2) (by simpa using hw)
 obtain ⟨ord,hord⟩:∃ ord,aF aG h [id,id2] [] = ord:=⟨_,rfl⟩
 rw [hord] at c1 c2 c3 ⊢
 obtain ⟨k,hk⟩:=dF (c2 id (by simp))
 obtain ⟨k2,hk2⟩:=dF (c2 id2 (by simp))
 have p1:=kZ (h:=h) (bE hk) h1
 have bk:∀ xs:List A,(∀ i ∈ idsL xs,i ∈ ord) → aH (fun (k:Nat) => ord[k]?) (aH (aK ord) xs) = xs:=by
  intro xs hx
  rw [pD (q:=fun i => (aK ord i).bind fun k => ord[k]?) (fun _ => rfl)]
  apply jC
  intro i hi
  obtain ⟨j,hj⟩:=dF (hx i hi)
  simp only [hj,Option.bind_some]
  exact bE hj
 have hcs:∀ i ∈ idsL cs,i ∈ ord:=by
  have:=c3 id (c2 id (by simp))
  simpa only [kids,h1] using this
 have split_cs:∀ q:Nat,(∀ i ∈ idsL (cs.take q),i ∈ ord) ∧ (∀ i ∈ idsL (cs.drop q),i ∈ ord):=by
  intro q
  have:=List.take_append_drop q cs
  constructor
  ·intro i hi
   refine hcs i ?_
   rw [← this,bY,List.mem_append]; exact .inl hi
  ·intro i hi
   refine hcs i ?_
   rw [← this,bY,List.mem_append]; exact .inr hi
 have hnew:∀ i ∈ idsL (bS cs off [.sl id2 g o len]),i ∈ ord:=by
  intro i hi
  unfold bS at hi
  rw [bY,bY,List.mem_append,List.mem_append] at hi
  rcases hi with (hi | hi) | hi
  ·exact (split_cs _).1 i hi
  ·simp [idsL,idsA] at hi; subst hi; exact c2 i (by simp)
  ·exact (split_cs _).2 i hi
 have hmr:bS (aH (aK ord) cs) off [.sl k2 g o len] = aH (aK ord) (bS cs off [.sl id2 g o len]):=by
  unfold bS
  rw [eQ,eQ,GS,OZ]
  simp only [aH,mapA,hk2,List.length_cons,List.length_nil]
 have key:=HJ (E:=E) (call:=call) (thaw:=thaw) (dst:=dst) (op:=.store t x y) (h:=h) (vs:=[A.ptr id 0 off,A.sl id2 g o len]) (a:=.d .undef) (a2:=.d .undef) (o:=.box (aH (aK ord) (bS cs off [.sl id2 g o len]))) (o2:=.box (bS cs off [.sl id2 g o len])) (id:=id) (k:=k) (ord:=ord) (by rw [hids]; exact hord) (by rw [hids]; exact c1) hk rfl ?_ (by simp only [mapA]) (by simp only [mapO,bk _ hnew])
 ·rw [key]
  rfl
 ·have hoff2:off + 1 ≤ (aH (aK ord) cs).length:=by rw [EJ]; exact hoff
  simp only [aH,mapA,hk,hk2,evOp,gC,two,mP,aO,List.length_cons,List.length_nil,Nat.zero_add,ht,hi,List.all_cons,List.all_nil,cV,Bool.and_self,and_self,if_true,p1,mapO,hoff2,aT,hmr,Option.map_some]
end Ev
end Go.Proofs.YtppdfjdfjfoddaaDoor
