/-
  The exact laws' own functions, at automata: sizes, marks, what is held, copies.
-/
import Derived.Test.YtppdfjdfjfoddaaBlock
set_option linter.unusedSimpArgs false
set_option linter.unusedVariables false
set_option maxRecDepth 8000
set_option maxHeartbeats 4000000
namespace Go.Proofs.Ytppdfjdfjfoddaa
namespace Ev
def xd : List (List Int) → Nat
 | [] => 0
 | r :: rs => r.length + xd rs
section
section
variable {h h2 : H} {nf : Nat} (hn : nf = h.length) (hk : ∀ o ∈ h,∀ j ∈ x5h o,j < nf)
include hn hk
end
theorem x1e3 {b k : Nat} : ∀ {rs : List (List Int)} {b k : Nat},k < rs.length → ((x3 b rs ++ x6 0).drop k).head? = some (.sl (b + k) 0 0 (rs.getD k []).length)
 | [],b,k,h => by simp at h
 | r :: rs,b,0,h => by simp [x3]
 | r :: rs,b,k + 1,h => by
  simp only [x3,List.cons_append,List.drop_succ_cons]
  rw [x1e3 (b := b) (k := k) (by simpa using h)]
  simp only [List.getD_cons_succ]
  congr 2
  omega
theorem x1ht {d : List (List Int)} {k : Nat} (h : k < d.length) : (x9 d)[k]? = some (.arr (ints (d.getD k [])) 1 0) := by
 rw [List.getD_eq_getElem?_getD,List.getElem?_eq_getElem h]
 exact x14r (List.getElem?_eq_getElem h)
theorem x1s4 {d : List (List Int)} {k : Nat} {r : List Int} : (x9 d).set k (.arr (ints r) 1 0) = x9 (d.set k r) := by
 unfold x9
 rw [List.map_set]
 rfl
end
section
theorem xyv {m : List Bool} {s : List A} {h : H} {ord : List Nat} (hr : x4 x5 h (idsL (tidy m s)) [] = ord) : gc 0 m s h = (xj 0 (pack h ord) (x7 (xa ord) (tidy m s)),x3a 0 (pack h ord)) := by
 unfold gc trim
 rw [xl1]
 unfold x5 at hr
 rw [hr]
theorem x78 {h : H} : ∀ (os : H) (i : Nat),x58 0 h i os = os.map (x2r 0 h 0)
 | [],_ => rfl
 | o :: os,i => by
  simp only [x58,List.map_cons,x78 os (i + 1)]
  cases o <;> simp [x2r]
theorem x80 {h : H} {rs : List (List Int)} : (x9 rs).map (x2r 0 h 0) = x9 rs := by
 simp [x9,x2r]
theorem x63 {nf : Nat} {h : H} : ∀ (xs ys : List A),xj nf h (xs ++ ys) = xj nf h xs ++ xj nf h ys
 | [],ys => by simp [xj]
 | x :: xs,ys => by simp [xj,x63 xs ys]
theorem x76 {h : H} : ∀ {rs : List (List Int)} {b : Nat},(∀ i,i < rs.length → xx h (b + i) = some 0) → xj 0 h (x3 b rs) = x3 b rs
 | [],b,_ => by simp [x3,xj]
 | r :: rs,b,hh => by
  have h0 := hh 0 (by simp)
  simp only [Nat.add_zero] at h0
  simp only [x3,xj,x1c,x7i,Nat.not_lt_zero,if_false,h0,if_true]
  rw [x76 (rs := rs) (b := b + 1) fun i hi => by
   rw [show b + 1 + i = b + (i + 1) by omega]
   exact hh (i + 1) (by simp; omega)]
theorem x1wb {f : Nat → Option Nat} {h : H} {b : Nat} {rs : List (List Int)} (hh : ∀ (i : Nat) (r : List Int),rs[i]? = some r → h[b + i]? = some (.arr (ints r) 1 0)) : (List.range' b rs.length).map (fun i => mapO f (h.getD i default)) = x9 rs := x1e7 hh
theorem xs7 {rs : List (List Int)} {p : H} {i : Nat} {r : List Int} (h : rs[i]? = some r) : (x9 rs ++ p)[i]? = some (.arr (ints r) 1 0) := by
 rw [List.getElem?_append_left (by rw [x30]; exact xge h)]
 exact x14r h
theorem xrj {b k : Nat} {rs : List (List Int)} (h : k = rs.length) : (x3 b rs ++ x6 0).take k = x3 b rs := by
 have hn : x6 0 = [] := rfl
 rw [hn,List.append_nil,List.take_of_length_le (by rw [x79]; omega)]
section
variable {x0 x1 : D} {k z : Nat} {cs cr : List D} {d : List (List Int)} {p : H}
theorem x1i {h : H} {i : Nat} {r : List D} {e g : Nat} (hr : h[i]? = some (.arr r e g)) : kids h i = [] := by simp only [kids,hr]
mutual
theorem x1uy {f g : Nat → Option Nat} : ∀ a : A,(∀ i ∈ idsA a,f i = g i) → mapA f a = mapA g a
 | .d x,_ => by simp only [mapA]
 | .sl id gen off len,hi => by simp only [mapA,hi id (by simp [idsA])]
 | .ptr id gen off,hi => by simp only [mapA,hi id (by simp [idsA])]
 | .mp id,hi => by simp only [mapA,hi id (by simp [idsA])]
 | .clo q caps,hi => by simp only [mapA]; rw [xaz caps (by simpa only [idsA] using hi)]
 | .agg cs,hi => by simp only [mapA]; rw [xaz cs (by simpa only [idsA] using hi)]
 | .tup cs,hi => by simp only [mapA]; rw [xaz cs (by simpa only [idsA] using hi)]
 | .junk,_ => by simp only [mapA]
theorem xaz {f g : Nat → Option Nat} : ∀ xs : List A,(∀ i ∈ idsL xs,f i = g i) → x7 f xs = x7 g xs
 | [],_ => by simp only [x7]
 | a :: xs,hi => by
  simp only [idsL,List.mem_append] at hi
  simp only [x7]
  rw [x1uy a fun i h => hi i (.inl h),xaz xs fun i h => hi i (.inr h)]
end
mutual
theorem x217 {f : Nat → Option Nat} : ∀ a : A,z0A a = true → z0A (mapA f a) = true
 | .d x,_ => by simp only [mapA,z0A]
 | .sl id gen off len,hz => by simp only [mapA]; cases f id <;> first | rfl | exact hz
 | .ptr id gen off,hz => by simp only [mapA]; cases f id <;> first | rfl | exact hz
 | .mp id,hz => by simp only [mapA]; cases f id <;> first | rfl | exact hz
 | .clo q caps,hz => by simp only [mapA,z0A] at hz ⊢; exact xm2 caps hz
 | .agg cs,hz => by simp only [mapA,z0A] at hz ⊢; exact xm2 cs hz
 | .tup cs,hz => by simp only [mapA,z0A] at hz ⊢; exact xm2 cs hz
 | .junk,_ => by simp only [mapA,z0A]
theorem xm2 {f : Nat → Option Nat} : ∀ xs : List A,z0As xs = true → z0As (x7 f xs) = true
 | [],_ => by simp only [x7,z0As]
 | a :: xs,hz => by
  simp only [z0As,Bool.and_eq_true] at hz
  simp only [x7,z0As,Bool.and_eq_true]
  exact ⟨x217 a hz.1,xm2 xs hz.2⟩
end
end
theorem x8v {h p : H} {d : List (List Int)} (B : Nat) (hd : h.drop B = x9 d ++ p) : ∀ (i : Nat) (r : List Int),d[i]? = some r → h[B + i]? = some (.arr (ints r) 1 0) := by
 intro i r hr
 rw [← List.getElem?_drop,hd]
 exact xs7 hr
theorem xka {h p : H} {d : List (List Int)} (B q : Nat) (hd : h.drop B = x9 d ++ p) {o : O} (ho : p[q]? = some o) {j : Nat} (hj : j = d.length + (B + q)) : h[j]? = some o := by
 subst hj
 rw [show d.length + (B + q) = B + (d.length + q) by omega,← List.getElem?_drop,hd,List.getElem?_append_right (by rw [x30]; omega),x30,Nat.add_sub_cancel_left]
 exact ho
theorem x9o {h : H} {d : List (List Int)} {B : Nat} (gr : ∀ (i : Nat) (r : List Int),d[i]? = some r → h[B + i]? = some (.arr (ints r) 1 0)) : ∀ i ∈ List.range' B d.length,∃ r : List Int,h[i]? = some (.arr (ints r) 1 0) := by
 intro i hi
 rw [List.mem_range'_1] at hi
 obtain ⟨j,rfl⟩ : ∃ j,i = B + j := ⟨i - B,by omega⟩
 exact ⟨d[j]'(by omega),gr j _ (List.getElem?_eq_getElem (by omega))⟩
theorem x7o {h : H} {ids P T L : List Nat} {B n N : Nat} (hfix : P ++ (T ++ (List.range' B n ++ L)) = ids ++ P.flatMap (kids h)) (hprog : ∀ k,k < P.length → k < ids.length + ((P.take k).flatMap (kids h)).length)
  (leaf : ∀ i ∈ List.range' B n,∃ r : List Int,h[i]? = some (.arr (ints r) 1 0)) (hT : ∀ i ∈ T ++ L,∃ cs e g,h[i]? = some (.arr cs e g)) (hP : ∀ i ∈ P,∃ o,h[i]? = some o ∧ o ≠ .void)
  (hnd : (P ++ (T ++ L)).Nodup) (hout : ∀ i ∈ P ++ (T ++ L),i < B ∨ B + n ≤ i) (hf : P.length + T.length + n + L.length ≤ N) : x4 N h ids [] = P ++ (T ++ (List.range' B n ++ L)) := by
 refine x1sp hfix ?_ hprog ?_ ?_ ?_
 ·intro i hi
  rcases List.mem_append.1 hi with h1 | h1
  ·obtain ⟨cs,e,g,h2⟩ := hT i (List.mem_append.2 (.inl h1)); exact x1i h2
  ·rcases List.mem_append.1 h1 with h2 | h2
   ·obtain ⟨r,hr⟩ := leaf i h2; exact x1i hr
   ·obtain ⟨cs,e,g,h3⟩ := hT i (List.mem_append.2 (.inr h2)); exact x1i h3
 ·have hp : (P ++ (T ++ (List.range' B n ++ L))).Perm (List.range' B n ++ (P ++ (T ++ L))) := by
   have e1 : (T ++ (List.range' B n ++ L)).Perm (List.range' B n ++ (T ++ L)) := by
    rw [← List.append_assoc T _ L,← List.append_assoc _ T L]
    exact List.Perm.append_right L List.perm_append_comm
   refine (List.Perm.append_left P e1).trans ?_
   rw [← List.append_assoc P _ (T ++ L),← List.append_assoc _ P (T ++ L)]
   exact List.Perm.append_right (T ++ L) List.perm_append_comm
  rw [hp.nodup_iff,List.nodup_append]
  refine ⟨List.nodup_range',hnd,fun a ha b hb e => ?_⟩
  subst e
  rw [List.mem_range'_1] at ha
  have := hout a hb
  omega
 ·intro i hi
  rcases List.mem_append.1 hi with h1 | h1
  ·exact hP i h1
  ·rcases List.mem_append.1 h1 with h1 | h1
   ·obtain ⟨cs,e,g,h2⟩ := hT i (List.mem_append.2 (.inl h1)); exact ⟨_,h2,by simp⟩
   ·rcases List.mem_append.1 h1 with h2 | h2
    ·obtain ⟨r,hr⟩ := leaf i h2; exact ⟨_,hr,by simp⟩
    ·obtain ⟨cs,e,g,h3⟩ := hT i (List.mem_append.2 (.inr h2)); exact ⟨_,h3,by simp⟩
 ·simp only [List.length_append,List.length_range']; omega
theorem x9q {ord A L : List Nat} {B C n : Nat} (pk : ∀ i j,ord[j]? = some i → xa ord i = some j) (ho : ord = A ++ (List.range' B n ++ L)) (hA : A.length = C) : ∀ i,i < n → xa ord (B + i) = some (C + i) := by
 intro i hi
 refine pk _ _ ?_
 rw [ho,List.getElem?_append_right (by omega),hA,Nat.add_sub_cancel_left,List.getElem?_append_left (by simpa using hi),List.getElem?_range' hi]
 simp
theorem x13p {ord A L : List Nat} {B C n : Nat} (pk : ∀ i j,ord[j]? = some i → xa ord i = some j) (ho : ord = A ++ (List.range' B n ++ L)) (hA : A.length = C) (q : Nat) {i j : Nat} (hq : L[q]? = some i) (hj : j = n + (C + q)) : xa ord i = some j := by
 subst hj
 refine pk _ _ ?_
 rw [ho,List.getElem?_append_right (by omega),hA,show n + (C + q) - C = n + q by omega,List.getElem?_append_right (by simp),List.length_range',Nat.add_sub_cancel_left]
 exact hq
theorem xdf {K p : H} {d : List (List Int)} {C : Nat} (hd : K.drop C = x9 d ++ p) : ∀ i,i < d.length → xx K (C + i) = some 0 := by
 intro i hi
 have := x8v C hd i _ (List.getElem?_eq_getElem hi)
 simp only [xx,this]
theorem xb9 {h : H} {ord A L : List Nat} {d : List (List Int)} {B : Nat} (ho : ord = A ++ (List.range' B d.length ++ L)) (gr : ∀ (i : Nat) (r : List Int),d[i]? = some r → h[B + i]? = some (.arr (ints r) 1 0)) : pack h ord = A.map (fun i => mapO (xa ord) (h.getD i default)) ++ (x9 d ++ L.map (fun i => mapO (xa ord) (h.getD i default))) := by
 unfold pack
 conv => lhs; arg 2; rw [ho]
 rw [List.map_append,List.map_append,x1wb gr]
end
mutual
theorem x1vb {p : H} (h0 : xx p 0 = none) : ∀ a : A,x1c 1 p a = x1c 0 p a
 | .d x => by simp only [x1c]
 | .sl id gen off len => by
  simp only [x1c,x7i,Nat.not_lt_zero,if_false]
  by_cases hi : id < 1
  ·obtain rfl : id = 0 := by omega
   simp [h0]
  ·rw [if_neg hi]
 | .ptr id gen off => by
  simp only [x1c,xti,Nat.not_lt_zero,if_false]
  by_cases hi : id < 1
  ·obtain rfl : id = 0 := by omega
   simp [h0]
  ·rw [if_neg hi]
 | .mp id => by simp only [x1c]
 | .clo g cs => by simp only [x1c]; rw [xk5 h0 cs]
 | .agg cs => by simp only [x1c]; rw [xk5 h0 cs]
 | .tup cs => by simp only [x1c]; rw [xk5 h0 cs]
 | .junk => by simp only [x1c]
theorem xk5 {p : H} (h0 : xx p 0 = none) : ∀ xs : List A,xj 1 p xs = xj 0 p xs
 | [] => by simp only [xj]
 | x :: xs => by simp only [xj]; rw [x1vb h0 x,xk5 h0 xs]
end
theorem x1w9 {p : H} (h0 : xx p 0 = none) {i : Nat} (hi : 1 ≤ i) (o : O) : x2r 1 p i o = x2r 0 p i o := by
 cases o <;> simp only [x2r,Nat.not_lt_zero,if_false,xk5 h0,if_neg (show ¬ i < 1 by omega)]
theorem x17l {p : H} (h0 : xx p 0 = none) : ∀ (os : H) (i : Nat),1 ≤ i → x58 1 p i os = x58 0 p i os
 | [],i,_ => rfl
 | o :: os,i,hi => by simp only [x58]; rw [x1w9 h0 hi,x17l h0 os (i + 1) (by omega)]
theorem x1dh {x y : D} {t : H} {l : List Nat} {s : List A} : trim 1 (.box [.d x,.d y] :: t) (0 :: l) s = trim 0 (.box [.d x,.d y] :: t) (0 :: l) s := by
 have hp : pack (.box [.d x,.d y] :: t) (0 :: l) = .box [.d x,.d y] :: l.map fun i => mapO (xa (0 :: l)) ((O.box [.d x,.d y] :: t).getD i default) := by
  simp [pack,mapO,x7,mapA]
 have h0 : xx (pack (.box [.d x,.d y] :: t) (0 :: l)) 0 = none := by rw [hp]; rfl
 unfold trim
 rw [xk5 h0]
 congr 1
 unfold x3a
 generalize hq : pack (.box [.d x,.d y] :: t) (0 :: l) = p at *
 obtain ⟨os,hos⟩ : ∃ os,p = .box [.d x,.d y] :: os := ⟨_,hp⟩
 have key : ∀ w : H,w = .box [.d x,.d y] :: os → x58 1 p 0 w = x58 0 p 0 w := by
  intro w hw
  subst hw
  simp only [x58]
  rw [x17l h0 _ (0 + 1) (Nat.le_refl _)]
  simp only [x2r,xj,x1c]
 exact key p hos
theorem x1v6 {x y : D} {t : H} {n : Nat} {l : List Nat} : x4 (n + 1) (.box [.d x,.d y] :: t) (0 :: l) [0] = x4 n (.box [.d x,.d y] :: t) l [0] := by
 simp [x4]
theorem xze {x y : D} {t : H} {n : Nat} {l : List Nat} : x4 (n + 1) (.box [.d x,.d y] :: t) (0 :: l) [] = x4 n (.box [.d x,.d y] :: t) l [0] := by
 simp [x4,idsL,idsA]
theorem xb2 : ∀ (n : Nat) (h : H) (todo acc : List Nat),∃ q,x4 n h todo acc = acc ++ q
 | 0,h,todo,acc => ⟨[],by simp [x4]⟩
 | n + 1,h,[],acc => ⟨[],by simp [x4]⟩
 | n + 1,h,i :: todo,acc => by
  unfold x4
  split
  ·exact xb2 n h todo acc
  ·split
   ·obtain ⟨q,hq⟩ := xb2 n h (todo ++ idsL _) (acc ++ [i]); exact ⟨i :: q,by rw [hq]; simp⟩
   ·obtain ⟨q,hq⟩ := xb2 n h (todo ++ idsL _) (acc ++ [i]); exact ⟨i :: q,by rw [hq]; simp⟩
   ·exact xb2 n h todo acc
   ·obtain ⟨q,hq⟩ := xb2 n h todo (acc ++ [i]); exact ⟨i :: q,by rw [hq]; simp⟩
   ·exact xb2 n h todo acc
theorem x20v {x y : D} {t : H} {l : List Nat} : x4c 1 (.box [.d x,.d y] :: t) (0 :: l) = x4c 0 (.box [.d x,.d y] :: t) (0 :: l) := by
 rw [xh5,xh5]
 have e1 : x4p (List.take 1 (O.box [.d x,.d y] :: t)) ++ 0 :: l = 0 :: l := by simp [x4p,idsL,idsA]
 have e2 : x4p (List.take 0 (O.box [.d x,.d y] :: t)) ++ 0 :: l = 0 :: l := by simp [x4p]
 have e3 : List.range 1 = [0] := rfl
 have e4 : List.range 0 = ([] : List Nat) := rfl
 rw [e1,e2,e3,e4,show (1099511627776 : Nat) = 1099511627775 + 1 from rfl,x1v6,xze]
theorem x1j3 {x y : D} {t : H} {l : List Nat} : x4c 1 (.box [.d x,.d y] :: t) l = x4 (x5 + 1) (.box [.d x,.d y] :: t) (0 :: l) [] := by
 rw [xh5,xze]
 have e1 : x4p (List.take 1 (O.box [.d x,.d y] :: t)) ++ l = l := by simp [x4p,idsL,idsA]
 have e3 : List.range 1 = [0] := rfl
 rw [e1,e3]
 rfl
theorem x227 {m : List Bool} {s : List A} {x y : D} {t : H} {l : List Nat} (hid : idsL (tidy m s) = 0 :: l) : gc 1 m s (.box [.d x,.d y] :: t) = gc 0 m s (.box [.d x,.d y] :: t) := by
 unfold gc
 rw [hid,x20v]
 obtain ⟨q,hq⟩ := xb2 1099511627775 (.box [.d x,.d y] :: t) l [0]
 have : x4c 0 (.box [.d x,.d y] :: t) (0 :: l) = 0 :: q := by
  rw [xh5]
  have e2 : x4p (List.take 0 (O.box [.d x,.d y] :: t)) ++ 0 :: l = 0 :: l := by simp [x4p]
  have e4 : List.range 0 = ([] : List Nat) := rfl
  rw [e2,e4,show (1099511627776 : Nat) = 1099511627775 + 1 from rfl,xze,hq]
  rfl
 rw [this,x1dh]
theorem x14b {m : List Bool} {s : List A} {x y : D} {t h : H} {l : List Nat} (hh : O.box [.d x,.d y] :: t = h) (hid : idsL (tidy m s) = 0 :: l) : gc 1 m s h = gc 0 m s h := by
 subst hh
 exact x227 hid
theorem x1bx {m : List Bool} {s : List A} {x y : D} {t h : H} {l ord : List Nat} (hh : O.box [.d x,.d y] :: t = h) (hi : idsL (tidy m s) = l) (hr : x4 (x5 + 1) h (0 :: l) [] = ord) : gc 1 m s h = (xj 0 (pack h ord) (x7 (xa ord) (tidy m s)),x3a 0 (pack h ord)) := by
 subst hh
 unfold gc
 rw [hi,x1j3,hr]
 obtain ⟨q,hq⟩ := xb2 x5 (.box [.d x,.d y] :: t) l [0]
 have e : ord = 0 :: q := by
  rw [← hr,xze,hq]
  rfl
 rw [e,x1dh]
 rfl
def x15c (n : Nat) (ids : List Nat) : Bool := decide (ids = [3,n + 8])
theorem x1oe {n : Nat} {ke2 : Nat} (he2 : ke2 = n + 8) : x15c n [3,ke2] = true := by subst he2; simp [x15c]
def xs3 (n i : Nat) : Option Nat := if i = 0 then some 0 else if i = 3 then some 1 else if i = n + 8 then some 2 else none
theorem x1f6 {n : Nat} : xs3 n 3 = some (1) := by unfold xs3; repeat (first | rfl | rw [if_pos rfl] | rw [if_neg (by omega)])
theorem x19p {n k : Nat} (h : k = n + 8) : xs3 n k = some (2) := by subst h; unfold xs3; repeat (first | rfl | rw [if_pos rfl] | rw [if_neg (by omega)])
theorem x20o {m : List Bool} {s : List A} {y1 y2 x0 x1 : D} {k z : Nat} {cs : List D} {d : List (List Int)} (hl : d.length ≤ 4294967296) : gc 1 m s (.box [.d y1,.d y2] :: .arr [] 0 0 :: .arr [] 0 0 :: .box [.d x0,.sl 1 0 0 0,.sl 2 0 0 0] :: .vec (x3 6 d ++ x6 0) 1 0 :: .arr cs 1 0 :: (x9 d ++ [.arr [] 0 0,.arr [] 0 0,.box [.d x1,.sl 4 0 0 k,.sl 5 0 0 z]])) = match box (tidy m s) with
  | .mk s1 => if x15c d.length (idsL s1) = true ∧ z0As s1 = true then (x7 (xs3 d.length) s1,.box [.d y1,.d y2] :: .box [.d x0,.sl 3 0 0 0,.sl 4 0 0 0] :: .box [.d x1,.sl 5 0 0 k,.sl 6 0 0 z] :: .arr [] 0 0 :: .arr [] 0 0 :: .vec (x3 7 d ++ x6 0) 1 0 :: .arr cs 1 0 :: x9 d) else gcO 1 m s (.box [.d y1,.d y2] :: .arr [] 0 0 :: .arr [] 0 0 :: .box [.d x0,.sl 1 0 0 0,.sl 2 0 0 0] :: .vec (x3 6 d ++ x6 0) 1 0 :: .arr cs 1 0 :: (x9 d ++ [.arr [] 0 0,.arr [] 0 0,.box [.d x1,.sl 4 0 0 k,.sl 5 0 0 z]]))
  | .no => ([],[]) := by
 simp only [box]
 split
 ·rename_i hc
  obtain ⟨hb,hz⟩ := hc
  have hids : idsL (tidy m s) = [3,d.length + 8] := by simpa [x15c] using hb
  obtain ⟨h,hh⟩ : ∃ h : H,O.box [.d y1,.d y2] :: .arr [] 0 0 :: .arr [] 0 0 :: .box [.d x0,.sl 1 0 0 0,.sl 2 0 0 0] :: .vec (x3 6 d ++ x6 0) 1 0 :: .arr cs 1 0 :: (x9 d ++ [.arr [] 0 0,.arr [] 0 0,.box [.d x1,.sl 4 0 0 k,.sl 5 0 0 z]]) = h := ⟨_,rfl⟩
  conv => lhs; rw [hh]
  have g0 : h[0]? = some (.box [.d y1,.d y2]) := by rw [← hh]; rfl
  have g1 : h[1]? = some (.arr [] 0 0) := by rw [← hh]; rfl
  have g2 : h[2]? = some (.arr [] 0 0) := by rw [← hh]; rfl
  have g3 : h[3]? = some (.box [.d x0,.sl 1 0 0 0,.sl 2 0 0 0]) := by rw [← hh]; rfl
  have g4 : h[4]? = some (.vec (x3 6 d ++ x6 0) 1 0) := by rw [← hh]; rfl
  have g5 : h[5]? = some (.arr cs 1 0) := by rw [← hh]; rfl
  have hD : h.drop 6 = x9 d ++ [.arr [] 0 0,.arr [] 0 0,.box [.d x1,.sl 4 0 0 k,.sl 5 0 0 z]] := by rw [← hh]; rfl
  have gr := x8v 6 hD
  have ge2 : h[d.length + 8]? = some (.box [.d x1,.sl 4 0 0 k,.sl 5 0 0 z]) := xka 6 2 hD rfl (by omega)
  have k0 : kids h (0) = [] := by simp [kids,g0,idsL,idsA]
  have k3 : kids h (3) = [1,2] := by simp [kids,g3,idsL,idsA]
  have ke2 : kids h (d.length + 8) = [4,5] := by simp [kids,ge2,idsL,idsA]
  have k1 : kids h (1) = [] := x1i g1
  have k2 : kids h (2) = [] := x1i g2
  have k4 : kids h (4) = List.range' 6 d.length := by simp [kids,g4,x1d,x2k,x3h,idsL,idsA]
  have leaf := x9o gr
  have hr : x4 (x5 + 1) h [0,3,d.length + 8] [] = [0,3,d.length + 8,1,2,4] ++ ([5] ++ (List.range' 6 d.length ++ [])) := x7o (by simp [k0,k3,ke2,k1,k2,k4]) (by intro q hq; simp only [List.length_cons,List.length_nil] at hq; have : q = 0 ∨ q = 1 ∨ q = 2 ∨ q = 3 ∨ q = 4 ∨ q = 5 := (by omega); rcases this with rfl | rfl | rfl | rfl | rfl | rfl <;> simp [k0,k3,ke2,k1,k2,k4]) leaf (by intro i hi; simp at hi; subst hi; exact ⟨_,_,_,by assumption⟩) (by intro i hi; simp at hi; rcases hi with rfl | rfl | rfl | rfl | rfl | rfl <;> exact ⟨_,by assumption,by simp⟩) (by simp <;> omega) (by intro i hi; simp at hi; omega) (by simp only [x5,List.length_cons,List.length_nil]; omega)
  generalize hord : [0,3,d.length + 8,1,2,4] ++ ([5] ++ (List.range' 6 d.length ++ [])) = ord at hr
  have hA : ord = ([0,3,d.length + 8,1,2,4] ++ [5]) ++ (List.range' 6 d.length ++ []) := by rw [← hord,List.append_assoc]
  have pk : ∀ i j,ord[j]? = some i → xa ord i = some j := fun i j h1 => x4i (by rw [← hr]; exact x2h (x5 + 1) h _ [] (by simp)) h1
  have p0 := pk (0) 0 (by rw [← hord]; rfl)
  have p3 := pk (3) 1 (by rw [← hord]; rfl)
  have pe2 := pk (d.length + 8) 2 (by rw [← hord]; rfl)
  have p1 := pk (1) 3 (by rw [← hord]; rfl)
  have p2 := pk (2) 4 (by rw [← hord]; rfl)
  have p4 := pk (4) 5 (by rw [← hord]; rfl)
  have p5 := pk (5) 6 (by rw [← hord]; rfl)
  have pr := x9q (C := 7) pk hA rfl
  obtain ⟨K,hK⟩ : ∃ K : H,O.box [.d y1,.d y2] :: .box [.d x0,.sl 3 0 0 0,.sl 4 0 0 0] :: .box [.d x1,.sl 5 0 0 k,.sl 6 0 0 z] :: .arr [] 0 0 :: .arr [] 0 0 :: .vec (x3 7 d ++ x6 0) 1 0 :: .arr cs 1 0 :: x9 d = K := ⟨_,rfl⟩
  have hni : ∀ f,x7 f (x6 0) = x6 0 := fun _ => rfl
  have hpk : pack h ord = K := by
   have hrf : x7 (xa ord) (x3 6 d) = x3 7 d := x6f (c := 0) pr
   rw [xb9 hA gr,← hK]
   simp only [List.cons_append,List.nil_append,List.map_cons,List.map_nil,List.getD_eq_getElem?_getD,g0,g3,ge2,g1,g2,g4,g5,Option.getD_some,mapO,x7,mapA,x3v,hrf,hni,p0,p3,pe2,p1,p2,p4,p5,List.append_nil]
  have hKD : K.drop 7 = x9 d ++ [] := by rw [← hK]; exact (List.append_nil _).symm
  have hgr := xdf hKD
  have hcm : x3a 0 K = .box [.d y1,.d y2] :: .box [.d x0,.sl 3 0 0 0,.sl 4 0 0 0] :: .box [.d x1,.sl 5 0 0 k,.sl 6 0 0 z] :: .arr [] 0 0 :: .arr [] 0 0 :: .vec (x3 7 d ++ x6 0) 1 0 :: .arr cs 1 0 :: x9 d := by
   have hrf : xj 0 K (x3 7 d) = x3 7 d := x76 hgr
   have hnc : ∀ h : H,xj 0 h (x6 0) = x6 0 := fun _ => rfl
   have q3 : xx K 3 = some 0 := by rw [← hK]; rfl
   have q4 : xx K 4 = some 0 := by rw [← hK]; rfl
   have q5 : xx K 5 = some 0 := by rw [← hK]; rfl
   have q6 : xx K 6 = some 0 := by rw [← hK]; rfl
   unfold x3a
   rw [x78]
   conv => lhs; arg 2; rw [← hK]
   simp only [List.map_cons,List.map_append,List.map_nil,x2r,xj,x1c,x7i,x63,hrf,hnc,x80,q3,q4,q5,q6,Nat.not_lt_zero,if_false,if_true]
  subst hK
  rw [x1bx hh hids hr,hpk,hcm]
  have hmp : x7 (xa ord) (tidy m s) = x7 (xs3 d.length) (tidy m s) := by
   apply xaz
   rw [hids]
   intro i hi
   simp only [List.mem_cons,List.not_mem_nil,or_false] at hi
   rcases hi with rfl | rfl
   ·rw [p3,x1f6]
   ·rw [pe2,x19p rfl]
  have hz2 : xj 0 (O.box [.d y1,.d y2] :: .box [.d x0,.sl 3 0 0 0,.sl 4 0 0 0] :: .box [.d x1,.sl 5 0 0 k,.sl 6 0 0 z] :: .arr [] 0 0 :: .arr [] 0 0 :: .vec (x3 7 d ++ x6 0) 1 0 :: .arr cs 1 0 :: x9 d) (x7 (xa ord) (tidy m s)) = x7 (xa ord) (tidy m s) := by
   exact xaw (xto (by simp [z0O,z0As,z0A,xo0,xki,xk7,xtj])) _ (xm2 _ hz)
  rw [hz2,hmp]
 ·rfl
def xnh (n i : Nat) : Option Nat := if i = 0 then some 0 else if i = 1 then some 1 else if i = 2 then some 2 else none
theorem xg2 {n : Nat} : xnh n 1 = some (1) := by unfold xnh; repeat (first | rfl | rw [if_pos rfl] | rw [if_neg (by omega)])
theorem xg6 {n : Nat} : xnh n 2 = some (2) := by unfold xnh; repeat (first | rfl | rw [if_pos rfl] | rw [if_neg (by omega)])
theorem xsa {m : List Bool} {s : List A} {y1 y2 x0 x1 : D} {k z : Nat} {cs : List D} {d : List (List Int)} (hl : d.length ≤ 4294967296) : gc 1 m s (.box [.d y1,.d y2] :: .box [.d x0,.sl 3 0 0 0,.sl 4 0 0 0] :: .box [.d x1,.sl 5 0 0 k,.sl 6 0 0 z] :: .arr [] 0 0 :: .arr [] 0 0 :: .vec (x3 7 d ++ x6 0) 1 0 :: .arr cs 1 0 :: x9 d) = match box (tidy m s) with
  | .mk s1 => if idsL s1 = [1,2] ∧ z0As s1 = true then (x7 (xnh d.length) s1,.box [.d y1,.d y2] :: .box [.d x0,.sl 3 0 0 0,.sl 4 0 0 0] :: .box [.d x1,.sl 5 0 0 k,.sl 6 0 0 z] :: .arr [] 0 0 :: .arr [] 0 0 :: .vec (x3 7 d ++ x6 0) 1 0 :: .arr cs 1 0 :: x9 d) else gcO 1 m s (.box [.d y1,.d y2] :: .box [.d x0,.sl 3 0 0 0,.sl 4 0 0 0] :: .box [.d x1,.sl 5 0 0 k,.sl 6 0 0 z] :: .arr [] 0 0 :: .arr [] 0 0 :: .vec (x3 7 d ++ x6 0) 1 0 :: .arr cs 1 0 :: x9 d)
  | .no => ([],[]) := by
 simp only [box]
 split
 ·rename_i hc
  obtain ⟨hb,hz⟩ := hc
  have hids : idsL (tidy m s) = [1,2] := by exact hb
  obtain ⟨h,hh⟩ : ∃ h : H,O.box [.d y1,.d y2] :: .box [.d x0,.sl 3 0 0 0,.sl 4 0 0 0] :: .box [.d x1,.sl 5 0 0 k,.sl 6 0 0 z] :: .arr [] 0 0 :: .arr [] 0 0 :: .vec (x3 7 d ++ x6 0) 1 0 :: .arr cs 1 0 :: x9 d = h := ⟨_,rfl⟩
  conv => lhs; rw [hh]
  have g0 : h[0]? = some (.box [.d y1,.d y2]) := by rw [← hh]; rfl
  have g1 : h[1]? = some (.box [.d x0,.sl 3 0 0 0,.sl 4 0 0 0]) := by rw [← hh]; rfl
  have g2 : h[2]? = some (.box [.d x1,.sl 5 0 0 k,.sl 6 0 0 z]) := by rw [← hh]; rfl
  have g3 : h[3]? = some (.arr [] 0 0) := by rw [← hh]; rfl
  have g4 : h[4]? = some (.arr [] 0 0) := by rw [← hh]; rfl
  have g5 : h[5]? = some (.vec (x3 7 d ++ x6 0) 1 0) := by rw [← hh]; rfl
  have g6 : h[6]? = some (.arr cs 1 0) := by rw [← hh]; rfl
  have hD : h.drop 7 = x9 d ++ [] := by rw [← hh]; exact (List.append_nil _).symm
  have gr := x8v 7 hD
  have k0 : kids h (0) = [] := by simp [kids,g0,idsL,idsA]
  have k1 : kids h (1) = [3,4] := by simp [kids,g1,idsL,idsA]
  have k2 : kids h (2) = [5,6] := by simp [kids,g2,idsL,idsA]
  have k3 : kids h (3) = [] := x1i g3
  have k4 : kids h (4) = [] := x1i g4
  have k5 : kids h (5) = List.range' 7 d.length := by simp [kids,g5,x1d,x2k,x3h,idsL,idsA]
  have leaf := x9o gr
  have hr : x4 (x5 + 1) h [0,1,2] [] = [0,1,2,3,4,5] ++ ([6] ++ (List.range' 7 d.length ++ [])) := x7o (by simp [k0,k1,k2,k3,k4,k5]) (by intro q hq; simp only [List.length_cons,List.length_nil] at hq; have : q = 0 ∨ q = 1 ∨ q = 2 ∨ q = 3 ∨ q = 4 ∨ q = 5 := (by omega); rcases this with rfl | rfl | rfl | rfl | rfl | rfl <;> simp [k0,k1,k2,k3,k4,k5]) leaf (by intro i hi; simp at hi; subst hi; exact ⟨_,_,_,by assumption⟩) (by intro i hi; simp at hi; rcases hi with rfl | rfl | rfl | rfl | rfl | rfl <;> exact ⟨_,by assumption,by simp⟩) (by simp <;> omega) (by intro i hi; simp at hi; omega) (by simp only [x5,List.length_cons,List.length_nil]; omega)
  generalize hord : [0,1,2,3,4,5] ++ ([6] ++ (List.range' 7 d.length ++ [])) = ord at hr
  have hA : ord = ([0,1,2,3,4,5] ++ [6]) ++ (List.range' 7 d.length ++ []) := by rw [← hord,List.append_assoc]
  have pk : ∀ i j,ord[j]? = some i → xa ord i = some j := fun i j h1 => x4i (by rw [← hr]; exact x2h (x5 + 1) h _ [] (by simp)) h1
  have p0 := pk (0) 0 (by rw [← hord]; rfl)
  have p1 := pk (1) 1 (by rw [← hord]; rfl)
  have p2 := pk (2) 2 (by rw [← hord]; rfl)
  have p3 := pk (3) 3 (by rw [← hord]; rfl)
  have p4 := pk (4) 4 (by rw [← hord]; rfl)
  have p5 := pk (5) 5 (by rw [← hord]; rfl)
  have p6 := pk (6) 6 (by rw [← hord]; rfl)
  have pr := x9q (C := 7) pk hA rfl
  obtain ⟨K,hK⟩ : ∃ K : H,O.box [.d y1,.d y2] :: .box [.d x0,.sl 3 0 0 0,.sl 4 0 0 0] :: .box [.d x1,.sl 5 0 0 k,.sl 6 0 0 z] :: .arr [] 0 0 :: .arr [] 0 0 :: .vec (x3 7 d ++ x6 0) 1 0 :: .arr cs 1 0 :: x9 d = K := ⟨_,rfl⟩
  have hni : ∀ f,x7 f (x6 0) = x6 0 := fun _ => rfl
  have hpk : pack h ord = K := by
   have hrf : x7 (xa ord) (x3 7 d) = x3 7 d := x6f (c := 0) pr
   rw [xb9 hA gr,← hK]
   simp only [List.cons_append,List.nil_append,List.map_cons,List.map_nil,List.getD_eq_getElem?_getD,g0,g1,g2,g3,g4,g5,g6,Option.getD_some,mapO,x7,mapA,x3v,hrf,hni,p0,p1,p2,p3,p4,p5,p6,List.append_nil]
  have hKD : K.drop 7 = x9 d ++ [] := by rw [← hK]; exact (List.append_nil _).symm
  have hgr := xdf hKD
  have hcm : x3a 0 K = .box [.d y1,.d y2] :: .box [.d x0,.sl 3 0 0 0,.sl 4 0 0 0] :: .box [.d x1,.sl 5 0 0 k,.sl 6 0 0 z] :: .arr [] 0 0 :: .arr [] 0 0 :: .vec (x3 7 d ++ x6 0) 1 0 :: .arr cs 1 0 :: x9 d := by
   have hrf : xj 0 K (x3 7 d) = x3 7 d := x76 hgr
   have hnc : ∀ h : H,xj 0 h (x6 0) = x6 0 := fun _ => rfl
   have q3 : xx K 3 = some 0 := by rw [← hK]; rfl
   have q4 : xx K 4 = some 0 := by rw [← hK]; rfl
   have q5 : xx K 5 = some 0 := by rw [← hK]; rfl
   have q6 : xx K 6 = some 0 := by rw [← hK]; rfl
   unfold x3a
   rw [x78]
   conv => lhs; arg 2; rw [← hK]
   simp only [List.map_cons,List.map_append,List.map_nil,x2r,xj,x1c,x7i,x63,hrf,hnc,x80,q3,q4,q5,q6,Nat.not_lt_zero,if_false,if_true]
  subst hK
  rw [x1bx hh hids hr,hpk,hcm]
  have hmp : x7 (xa ord) (tidy m s) = x7 (xnh d.length) (tidy m s) := by
   apply xaz
   rw [hids]
   intro i hi
   simp only [List.mem_cons,List.not_mem_nil,or_false] at hi
   rcases hi with rfl | rfl
   ·rw [p1,xg2]
   ·rw [p2,xg6]
  have hz2 : xj 0 (O.box [.d y1,.d y2] :: .box [.d x0,.sl 3 0 0 0,.sl 4 0 0 0] :: .box [.d x1,.sl 5 0 0 k,.sl 6 0 0 z] :: .arr [] 0 0 :: .arr [] 0 0 :: .vec (x3 7 d ++ x6 0) 1 0 :: .arr cs 1 0 :: x9 d) (x7 (xa ord) (tidy m s)) = x7 (xa ord) (tidy m s) := by
   exact xaw (xto (by simp [z0O,z0As,z0A,xo0,xki,xk7,xtj])) _ (xm2 _ hz)
  rw [hz2,hmp]
 ·rfl
end Ev
end Go.Proofs.Ytppdfjdfjfoddaa
