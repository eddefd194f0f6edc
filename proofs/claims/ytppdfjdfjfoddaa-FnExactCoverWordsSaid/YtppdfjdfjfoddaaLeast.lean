/-
  Memory in which rows are laid one after the other: rounds of x18.
-/
import Derived.Test.YtppdfjdfjfoddaaAutM
import Derived.Test.YtppdfjdfjfoddaaSortLayX
import Derived.Test.YtppdfjdfjfoddaaAutoL
import Derived.Tactics
set_option linter.unusedSimpArgs false
set_option linter.unusedVariables false
set_option maxRecDepth 8000
set_option maxHeartbeats 4000000
namespace Go.Proofs.Ytppdfjdfjfoddaa
namespace Ev
section
theorem x13m {h : H} : ∀ (os : H) (i : Nat),x4i 0 h i os = os.map (x2g 0 h 0)
 | [],_ => rfl
 | o :: os,i => by
  simp only [x4i,List.map_cons,x13m os (i + 1)]
  cases o <;> simp [x2g]
theorem x1ik {h : H} {rs : List (List Int)} : (xg rs).map (x2g 0 h 0) = xg rs := by
 simp [xg,x2g]
theorem xyv {nf : Nat} {h : H} : ∀ (xs ys : List A),x29 nf h (xs ++ ys) = x29 nf h xs ++ x29 nf h ys
 | [],ys => by simp [x29]
 | x :: xs,ys => by simp [x29,xyv xs ys]
theorem x13y {h : H} : ∀ {rs : List (List Int)} {b : Nat},(∀ i,i < rs.length → x3u h (b + i) = some 0) → x29 0 h (xb b rs) = xb b rs
 | [],b,_ => by simp [xb,x29]
 | r :: rs,b,hh => by
  have h0 := hh 0 (by simp)
  simp only [Nat.add_zero] at h0
  simp only [xb,x29,x2i,xk4,Nat.not_lt_zero,if_false,h0,if_true]
  rw [x13y (rs := rs) (b := b + 1) fun i hi => by
   rw [show b + 1 + i = b + (i + 1) by omega]
   exact hh (i + 1) (by simp; omega)]
theorem x1k8 {rs : List (List Int)} {p : H} {i : Nat} (h : i < rs.length) : x3u (xg rs ++ p) i = some 0 := by
 unfold x3u
 rw [List.getElem?_append_left (by rw [x1h]; exact h),x19t h]
theorem xqq {o : O} {h : H} {i : Nat} : x3u (o :: h) (i + 1) = x3u h i := by
 unfold x3u
 rw [List.getElem?_cons_succ]
theorem x1jz {f : Nat → Option Nat} {h : H} {b : Nat} {rs : List (List Int)} (hh : ∀ (i : Nat) (r : List Int),rs[i]? = some r → h[b + i]? = some (.arr (ints r) 1 0)) : (List.range' b rs.length).map (fun i => mapO f (h.getD i default)) = xg rs := xnv hh
theorem x1p4 {rs : List (List Int)} {p : H} {i : Nat} {r : List Int} (h : rs[i]? = some r) : (xg rs ++ p)[i]? = some (.arr (ints r) 1 0) := by
 rw [List.getElem?_append_left (by rw [x1h]; exact x9t h)]
 exact xb6 h
section
variable {x0 x1 : D} {k z : Nat} {cs cr : List D} {d : List (List Int)} {p : H}
theorem xz5 {h : H} {i : Nat} {r : List D} {e g : Nat} (hr : h[i]? = some (.arr r e g)) : kids h i = [] := by simp only [kids,hr]
mutual
theorem x1yk {f g : Nat → Option Nat} : ∀ a : A,(∀ i ∈ idsA a,f i = g i) → mapA f a = mapA g a
 | .d x,_ => by simp only [mapA]
 | .sl id gen off len,hi => by simp only [mapA,hi id (by simp [idsA])]
 | .ptr id gen off,hi => by simp only [mapA,hi id (by simp [idsA])]
 | .mp id,hi => by simp only [mapA,hi id (by simp [idsA])]
 | .clo q caps,hi => by simp only [mapA]; rw [xos caps (by simpa only [idsA] using hi)]
 | .agg cs,hi => by simp only [mapA]; rw [xos cs (by simpa only [idsA] using hi)]
 | .tup cs,hi => by simp only [mapA]; rw [xos cs (by simpa only [idsA] using hi)]
 | .junk,_ => by simp only [mapA]
theorem xos {f g : Nat → Option Nat} : ∀ xs : List A,(∀ i ∈ idsL xs,f i = g i) → xd f xs = xd g xs
 | [],_ => by simp only [xd]
 | a :: xs,hi => by
  simp only [idsL,List.mem_append] at hi
  simp only [xd]
  rw [x1yk a fun i h => hi i (.inl h),xos xs fun i h => hi i (.inr h)]
end
mutual
theorem x23j {f : Nat → Option Nat} : ∀ a : A,z0A a = true → z0A (mapA f a) = true
 | .d x,_ => by simp only [mapA,z0A]
 | .sl id gen off len,hz => by simp only [mapA]; cases f id <;> first | rfl | exact hz
 | .ptr id gen off,hz => by simp only [mapA]; cases f id <;> first | rfl | exact hz
 | .mp id,hz => by simp only [mapA]; cases f id <;> first | rfl | exact hz
 | .clo q caps,hz => by simp only [mapA,z0A] at hz ⊢; exact x12s caps hz
 | .agg cs,hz => by simp only [mapA,z0A] at hz ⊢; exact x12s cs hz
 | .tup cs,hz => by simp only [mapA,z0A] at hz ⊢; exact x12s cs hz
 | .junk,_ => by simp only [mapA,z0A]
theorem x12s {f : Nat → Option Nat} : ∀ xs : List A,z0As xs = true → z0As (xd f xs) = true
 | [],_ => by simp only [xd,z0As]
 | a :: xs,hz => by
  simp only [z0As,Bool.and_eq_true] at hz
  simp only [xd,z0As,Bool.and_eq_true]
  exact ⟨x23j a hz.1,x12s xs hz.2⟩
end
theorem x17j {L0 : List Nat} {b n : Nat} (h0 : L0.Nodup) (hlt : ∀ i ∈ L0,¬ (b ≤ i ∧ i < b + n)) : (L0 ++ List.range' b n).Nodup := by
 rw [List.nodup_append]
 refine ⟨h0,List.nodup_range',fun i hi j hj e => ?_⟩
 rw [List.mem_range'_1] at hj
 subst e
 exact hlt _ hi hj
end
end
def x15m (n : Nat) : List Nat := [7,n + 8] ++ (List.range' 8 n ++ [])
def xyi (n : Nat) (ids : List Nat) : Bool := decide (ids = [7,n + 8])
theorem x1u1 {n : Nat} {ke0 : Nat} (he0 : ke0 = n + 8) : xyi n [7,ke0] = true := by subst he0; simp [xyi]
def xrd (n i : Nat) : Option Nat := if i = 7 then some 0 else if i = n + 8 then some 1 else none
theorem x1gz {n : Nat} : xrd n 7 = some (0) := by unfold xrd; repeat (first | rfl | rw [if_pos rfl] | rw [if_neg (by omega)])
theorem x1aw {n k : Nat} (h : k = n + 8) : xrd n k = some (1) := by subst h; unfold xrd; repeat (first | rfl | rw [if_pos rfl] | rw [if_neg (by omega)])
theorem x1z5 {o0 o1 o2 o3 o4 o5 o6 : O} {cs : List D} {d : List (List Int)} (hl : d.length ≤ 4294967296) {ids : List Nat} : x37 0 (o0 :: o1 :: o2 :: o3 :: o4 :: o5 :: o6 :: .vec (xb 8 d ++ xf 0) 1 0 :: (xg d ++ [.arr cs 1 0])) ids = if xyi d.length ids = true then x15m d.length else x1jl 0 (o0 :: o1 :: o2 :: o3 :: o4 :: o5 :: o6 :: .vec (xb 8 d ++ xf 0) 1 0 :: (xg d ++ [.arr cs 1 0])) ids := by
 split
 ·rename_i hc
  have hc : ids = [7,d.length + 8] := by simpa [xyi] using hc
  subst hc
  obtain ⟨h,hh⟩ : ∃ h : H,o0 :: o1 :: o2 :: o3 :: o4 :: o5 :: o6 :: .vec (xb 8 d ++ xf 0) 1 0 :: (xg d ++ [.arr cs 1 0]) = h := ⟨_,rfl⟩
  conv => lhs; rw [hh]
  have g7 : h[7]? = some (.vec (xb 8 d ++ xf 0) 1 0) := by rw [← hh]; rfl
  have gr : ∀ (i : Nat) (r : List Int),d[i]? = some r → h[8 + i]? = some (.arr (ints r) 1 0) := by
   intro i r hr
   rw [← hh,show 8 + i = i + 1 + 1 + 1 + 1 + 1 + 1 + 1 + 1 by omega]
   simp only [List.getElem?_cons_succ]
   exact x1p4 hr
  have ge0 : h[d.length + 8]? = some (.arr cs 1 0) := by
   rw [← hh,show d.length + 8 = d.length + 1 + 1 + 1 + 1 + 1 + 1 + 1 + 1 by omega]
   simp only [List.getElem?_cons_succ]
   rw [List.getElem?_append_right (by rw [x1h]; omega),x1h,show d.length - d.length = 0 by omega]
   rfl
  have k7 : kids h (7) = List.range' 8 d.length := by simp [kids,g7,x6t,x6y,x85,idsL,idsA]
  have ke0 : kids h (d.length + 8) = [] := xz5 ge0
  have leaf : ∀ i ∈ List.range' 8 d.length,∃ r : List Int,h[i]? = some (.arr (ints r) 1 0) := by
   intro i hi
   rw [List.mem_range'_1] at hi
   obtain ⟨j,rfl⟩ : ∃ j,i = 8 + j := ⟨i - 8,by omega⟩
   exact ⟨d[j]'(by omega),gr j _ (List.getElem?_eq_getElem (by omega))⟩
  have hr : x5 x7 h [7,d.length + 8] [] = [7] ++ ([d.length + 8] ++ (List.range' 8 d.length ++ [])) := by
   refine xoh ?_ ?_ ?_ ?_ ?_ ?_
   ·simp [k7]
   ·intro i hi
    rcases List.mem_append.1 hi with h1 | h1
    ·simp only [List.mem_cons,List.not_mem_nil,or_false] at h1
     rcases h1 with rfl
     ·exact ke0
    ·rcases List.mem_append.1 h1 with h2 | h2
     ·obtain ⟨r,hr⟩ := leaf i h2; exact xz5 hr
     ·cases h2
   ·intro q hq
    simp only [List.length_cons,List.length_nil] at hq
    have : q = 0 := by omega
    rcases this with rfl <;> simp [k7]
   ·rw [← List.append_assoc,← List.append_assoc]
    rw [List.append_nil]
    exact x17j (by simp) (by intro i hi; simp at hi; omega)
   ·intro i hi
    simp only [List.cons_append,List.nil_append,List.mem_cons,List.mem_append,List.not_mem_nil,or_false] at hi
    rcases hi with rfl | rfl | hi
    ·exact ⟨_,g7,by simp⟩
    ·exact ⟨_,ge0,by simp⟩
    ·obtain ⟨r,hr⟩ := leaf i hi; exact ⟨_,hr,by simp⟩
   ·simp only [List.length_append,List.length_cons,List.length_nil,List.length_range',x7]; omega
  generalize hord : [7] ++ ([d.length + 8] ++ (List.range' 8 d.length ++ [])) = ord at hr
  have pk : ∀ i j,ord[j]? = some i → x8 ord i = some j := fun i j h1 => xba (by rw [← hr]; exact x3i x7 h _ [] (by simp)) h1
  have p7 := pk (7) 0 (by rw [← hord]; rfl)
  have pe0 := pk (d.length + 8) 1 (by rw [← hord]; rfl)
  have pr : ∀ i,i < d.length → x8 ord (8 + i) = some (2 + i) := fun i hi => pk _ _ (by
   rw [← hord,show 2 + i = i + 1 + 1 by omega]
   simp only [List.cons_append,List.nil_append,List.getElem?_cons_succ]
   first | rw [List.getElem?_append_left (by simpa using hi),List.getElem?_range' hi] | rw [List.append_nil,List.getElem?_range' hi]
   simp <;> omega)
  have hpk : pack h ord = .vec (xb 2 d ++ xf 0) 1 0 :: .arr cs 1 0 :: xg d := by
   have e1 : pack h ord = ([7,d.length + 8] : List Nat).map (fun i => mapO (x8 ord) (h.getD i default)) ++ ((List.range' 8 d.length).map (fun i => mapO (x8 ord) (h.getD i default)) ++ ([] : List Nat).map (fun i => mapO (x8 ord) (h.getD i default))) := by
    unfold pack
    conv => lhs; arg 2; rw [← hord]
    rw [← List.map_append,← List.map_append]
    rfl
   have hrf : xd (x8 ord) (xb 8 d) = xb 2 d := xus (c := 0) pr
   have hni : xd (x8 ord) (xf 0) = xf 0 := rfl
   rw [e1,x1jz gr]
   simp only [List.map_cons,List.map_nil,List.getD_eq_getElem?_getD,g7,ge0,Option.getD_some]
   simp only [mapO,xd,mapA,xov,hrf,hni,p7,pe0,List.cons_append,List.nil_append,List.append_nil]
  have hgr : ∀ i,i < d.length → x3u (O.vec (xb 2 d ++ xf 0) 1 0 :: .arr cs 1 0 :: xg d) (2 + i) = some 0 := by
   intro i hi
   rw [show 2 + i = i + 1 + 1 by omega]
   simp only [xqq]
   have := x1k8 (p := []) hi; rwa [List.append_nil] at this
  have hcm : x8a 0 (O.vec (xb 2 d ++ xf 0) 1 0 :: .arr cs 1 0 :: xg d) = .vec (xb 2 d ++ xf 0) 1 0 :: .arr cs 1 0 :: xg d := by
   have hrf : x29 0 (O.vec (xb 2 d ++ xf 0) 1 0 :: .arr cs 1 0 :: xg d) (xb 2 d) = xb 2 d := x13y hgr
   have hni : ∀ h : H,x29 0 h (xf 0) = xf 0 := fun _ => rfl
   have gS : ∀ (o : O) (h : H) (i : Nat),x3u (o :: h) (i + 1) = x3u h i := fun _ _ _ => xqq
   obtain ⟨hp,hq⟩ : ∃ hp : H,O.vec (xb 2 d ++ xf 0) 1 0 :: .arr cs 1 0 :: xg d = hp := ⟨_,rfl⟩
   rw [hq] at hrf
   conv => lhs; rw [hq]
   unfold x8a
   rw [x13m]
   have q0 : x3u hp 0 = some 0 := by rw [← hq]; rfl
   have q1 : x3u hp 1 = some 0 := by rw [← hq]; rfl
   conv => lhs; arg 2; rw [← hq]
   simp only [List.map_cons,List.map_append,List.map_nil,x2g,x29,x2i,xk4,xyv,hrf,hni,x1ik,q0,q1,Nat.not_lt_zero,if_false,if_true]
  rw [xeq]
  unfold x7 at hr
  rw [hr,← hord]
  rfl
 ·rfl
theorem x1ye {o0 o1 o2 o3 o4 o5 o6 : O} {cs : List D} {d : List (List Int)} (hl : d.length ≤ 4294967296) {s : List A} : trim 0 (o0 :: o1 :: o2 :: o3 :: o4 :: o5 :: o6 :: .vec (xb 8 d ++ xf 0) 1 0 :: (xg d ++ [.arr cs 1 0])) (x15m d.length) s = if xyi d.length (idsL s) = true ∧ z0As s = true then (xd (xrd d.length) s,.vec (xb 2 d ++ xf 0) 1 0 :: .arr cs 1 0 :: xg d) else x1jm 0 (o0 :: o1 :: o2 :: o3 :: o4 :: o5 :: o6 :: .vec (xb 8 d ++ xf 0) 1 0 :: (xg d ++ [.arr cs 1 0])) (x15m d.length) s := by
 split
 ·rename_i hc
  obtain ⟨hids,hz⟩ := hc
  have hids : idsL s = [7,d.length + 8] := by simpa [xyi] using hids
  obtain ⟨h,hh⟩ : ∃ h : H,o0 :: o1 :: o2 :: o3 :: o4 :: o5 :: o6 :: .vec (xb 8 d ++ xf 0) 1 0 :: (xg d ++ [.arr cs 1 0]) = h := ⟨_,rfl⟩
  conv => lhs; rw [hh]
  have g7 : h[7]? = some (.vec (xb 8 d ++ xf 0) 1 0) := by rw [← hh]; rfl
  have gr : ∀ (i : Nat) (r : List Int),d[i]? = some r → h[8 + i]? = some (.arr (ints r) 1 0) := by
   intro i r hr
   rw [← hh,show 8 + i = i + 1 + 1 + 1 + 1 + 1 + 1 + 1 + 1 by omega]
   simp only [List.getElem?_cons_succ]
   exact x1p4 hr
  have ge0 : h[d.length + 8]? = some (.arr cs 1 0) := by
   rw [← hh,show d.length + 8 = d.length + 1 + 1 + 1 + 1 + 1 + 1 + 1 + 1 by omega]
   simp only [List.getElem?_cons_succ]
   rw [List.getElem?_append_right (by rw [x1h]; omega),x1h,show d.length - d.length = 0 by omega]
   rfl
  have k7 : kids h (7) = List.range' 8 d.length := by simp [kids,g7,x6t,x6y,x85,idsL,idsA]
  have ke0 : kids h (d.length + 8) = [] := xz5 ge0
  have leaf : ∀ i ∈ List.range' 8 d.length,∃ r : List Int,h[i]? = some (.arr (ints r) 1 0) := by
   intro i hi
   rw [List.mem_range'_1] at hi
   obtain ⟨j,rfl⟩ : ∃ j,i = 8 + j := ⟨i - 8,by omega⟩
   exact ⟨d[j]'(by omega),gr j _ (List.getElem?_eq_getElem (by omega))⟩
  have hr : x5 x7 h [7,d.length + 8] [] = [7] ++ ([d.length + 8] ++ (List.range' 8 d.length ++ [])) := by
   refine xoh ?_ ?_ ?_ ?_ ?_ ?_
   ·simp [k7]
   ·intro i hi
    rcases List.mem_append.1 hi with h1 | h1
    ·simp only [List.mem_cons,List.not_mem_nil,or_false] at h1
     rcases h1 with rfl
     ·exact ke0
    ·rcases List.mem_append.1 h1 with h2 | h2
     ·obtain ⟨r,hr⟩ := leaf i h2; exact xz5 hr
     ·cases h2
   ·intro q hq
    simp only [List.length_cons,List.length_nil] at hq
    have : q = 0 := by omega
    rcases this with rfl <;> simp [k7]
   ·rw [← List.append_assoc,← List.append_assoc]
    rw [List.append_nil]
    exact x17j (by simp) (by intro i hi; simp at hi; omega)
   ·intro i hi
    simp only [List.cons_append,List.nil_append,List.mem_cons,List.mem_append,List.not_mem_nil,or_false] at hi
    rcases hi with rfl | rfl | hi
    ·exact ⟨_,g7,by simp⟩
    ·exact ⟨_,ge0,by simp⟩
    ·obtain ⟨r,hr⟩ := leaf i hi; exact ⟨_,hr,by simp⟩
   ·simp only [List.length_append,List.length_cons,List.length_nil,List.length_range',x7]; omega
  generalize hord : [7] ++ ([d.length + 8] ++ (List.range' 8 d.length ++ [])) = ord at hr
  have pk : ∀ i j,ord[j]? = some i → x8 ord i = some j := fun i j h1 => xba (by rw [← hr]; exact x3i x7 h _ [] (by simp)) h1
  have p7 := pk (7) 0 (by rw [← hord]; rfl)
  have pe0 := pk (d.length + 8) 1 (by rw [← hord]; rfl)
  have pr : ∀ i,i < d.length → x8 ord (8 + i) = some (2 + i) := fun i hi => pk _ _ (by
   rw [← hord,show 2 + i = i + 1 + 1 by omega]
   simp only [List.cons_append,List.nil_append,List.getElem?_cons_succ]
   first | rw [List.getElem?_append_left (by simpa using hi),List.getElem?_range' hi] | rw [List.append_nil,List.getElem?_range' hi]
   simp <;> omega)
  have hpk : pack h ord = .vec (xb 2 d ++ xf 0) 1 0 :: .arr cs 1 0 :: xg d := by
   have e1 : pack h ord = ([7,d.length + 8] : List Nat).map (fun i => mapO (x8 ord) (h.getD i default)) ++ ((List.range' 8 d.length).map (fun i => mapO (x8 ord) (h.getD i default)) ++ ([] : List Nat).map (fun i => mapO (x8 ord) (h.getD i default))) := by
    unfold pack
    conv => lhs; arg 2; rw [← hord]
    rw [← List.map_append,← List.map_append]
    rfl
   have hrf : xd (x8 ord) (xb 8 d) = xb 2 d := xus (c := 0) pr
   have hni : xd (x8 ord) (xf 0) = xf 0 := rfl
   rw [e1,x1jz gr]
   simp only [List.map_cons,List.map_nil,List.getD_eq_getElem?_getD,g7,ge0,Option.getD_some]
   simp only [mapO,xd,mapA,xov,hrf,hni,p7,pe0,List.cons_append,List.nil_append,List.append_nil]
  have hgr : ∀ i,i < d.length → x3u (O.vec (xb 2 d ++ xf 0) 1 0 :: .arr cs 1 0 :: xg d) (2 + i) = some 0 := by
   intro i hi
   rw [show 2 + i = i + 1 + 1 by omega]
   simp only [xqq]
   have := x1k8 (p := []) hi; rwa [List.append_nil] at this
  have hcm : x8a 0 (O.vec (xb 2 d ++ xf 0) 1 0 :: .arr cs 1 0 :: xg d) = .vec (xb 2 d ++ xf 0) 1 0 :: .arr cs 1 0 :: xg d := by
   have hrf : x29 0 (O.vec (xb 2 d ++ xf 0) 1 0 :: .arr cs 1 0 :: xg d) (xb 2 d) = xb 2 d := x13y hgr
   have hni : ∀ h : H,x29 0 h (xf 0) = xf 0 := fun _ => rfl
   have gS : ∀ (o : O) (h : H) (i : Nat),x3u (o :: h) (i + 1) = x3u h i := fun _ _ _ => xqq
   obtain ⟨hp,hq⟩ : ∃ hp : H,O.vec (xb 2 d ++ xf 0) 1 0 :: .arr cs 1 0 :: xg d = hp := ⟨_,rfl⟩
   rw [hq] at hrf
   conv => lhs; rw [hq]
   unfold x8a
   rw [x13m]
   have q0 : x3u hp 0 = some 0 := by rw [← hq]; rfl
   have q1 : x3u hp 1 = some 0 := by rw [← hq]; rfl
   conv => lhs; arg 2; rw [← hq]
   simp only [List.map_cons,List.map_append,List.map_nil,x2g,x29,x2i,xk4,xyv,hrf,hni,x1ik,q0,q1,Nat.not_lt_zero,if_false,if_true]
  have hoo : x15m d.length = ord := by rw [← hord]; rfl
  unfold trim
  rw [hoo,hpk,hcm]
  have hz2 : x29 0 (O.vec (xb 2 d ++ xf 0) 1 0 :: .arr cs 1 0 :: xg d) (xd (x8 ord) s) = xd (x8 ord) s := by
   exact xb0 (x194 (by simp [z0O,z0As,z0A,x199,x13u,x14k,x1mw])) _ (x12s _ hz)
  have hmp : xd (x8 ord) s = xd (xrd d.length) s := by
   apply xos
   rw [hids]
   intro i hi
   simp only [List.mem_cons,List.not_mem_nil,or_false] at hi
   rcases hi with rfl | rfl
   ·rw [p7,x1gz]
   ·rw [pe0,x1aw rfl]
  rw [hz2,hmp]
 ·rfl
theorem x1o4 {b n : Nat} {rs : List (List Int)} (hn : n = rs.length + 1) : ((O.vec (xb 1 rs ++ xf 0) 1 0 :: xg rs).map (mapO (back [] 0 n))).map (mapO (back [] b n)) = .vec (xb (b + 1) rs ++ xf 0) 1 0 :: xg rs := by
 subst hn
 simp only [List.map_cons,x1mr]
 rw [xn5 (f := back [] 0 (rs.length + 1)) (b := 1) (d := 1) fun i hi => by rw [xcx (by omega),Nat.zero_add]]
 rw [xn5 (f := back [] b (rs.length + 1)) (b := 1) (d := b + 1) fun i hi => by rw [xcx (by omega)]; congr 1; omega]
theorem x1rp {R : Type} {L n : Nat} {hq : H} {k : A → H → Option R} (hn : 4 ≤ n) (rs : List (List Int)) (hs : xp rs) (hL : 2 ^ 60 ≤ L) : x4 env (x2 env L n) hq 58 [.d (.ivs rs.length (rowsD rs))] k = k (.sl hq.length 0 0 rs.length) (hq ++ (.vec (xb (hq.length + 1) rs ++ xf 0) 1 0 :: xg rs)) := by
 rw [xug rfl xrw (x1qw hn rs hs hL),x1h,x1o4 rfl]
 simp only [mapA,xcx (b := 0) (n := rs.length + 1) (i := 0) (by omega),xcx (b := hq.length) (n := rs.length + 1) (i := 0) (by omega),Nat.add_zero]
theorem x1ej {L n : Nat} (hn : 5 ≤ n) (al : Int) (rs : List (List Int)) (ac : List Bool) (hs : xp rs) (ha : ac.length ≤ 4294967296) (hL : 2 ^ 60 ≤ L) : x2 env L n 18 [.agg [.d (.int .i64 al),.d (.ivs rs.length (rowsD rs)),.d (.ivs ac.length (bools ac))]] [] = some (autA 0 al rs.length ac.length,autO 0 rs ac) := by
 have hrl := hs.1
 unfold autA autO
 obtain _ | n := n; omega
 rw [x1et]
 simp only [x11q,Try.f18,SLM,simprocAttr]
 simp -implicitDefEqProofs (maxSteps := 2000000) (disch := first | assumption | exact ⟨by kernel_rfl⟩ | omega | (simp only [GT,LN] <;> omega) | fail) only [↓DN,↓kAsg,↓kRet,UP,simprocAttr,↓x1rp,↓x1ry,LA,x1h,↓x1z5,↓x1ye,z0As,z0A,eq_self,x1u1,x1gz,x1aw]
section
section
variable {h : H} {a b c d : O}
theorem xzp : (h ++ [a,b,c])[h.length + 1 + 1]? = some c := by
 rw [List.getElem?_append_right (by omega),show h.length + 1 + 1 - h.length = 2 by omega]
 rfl
theorem x1lk : (h ++ [a,b,c]).set (h.length + 1 + 1) d = h ++ [a,b,d] := by
 rw [List.set_append_right _ _ (by omega),show h.length + 1 + 1 - h.length = 2 by omega]
 rfl
theorem x1na : (h ++ [a,b,c]).length = h.length + 3 := by simp
end
def x1ah (n : Nat) (bad : List (Nat × Nat)) (ops : List Oper) : Bool := (List.range n).all fun j => (List.range j).all fun i => ((xqv ops []).getD j 0).testBit i || bad.contains (i,j)
theorem x1li {ops : List Oper} {cs : List Foot} (n : Nat) (bad : List (Nat × Nat)) (hn : cs.length = n) (hm : x1ah n bad ops = true) (hb : ∀ p ∈ bad,xau (cs.getD p.1 {}) (cs.getD p.2 {}) = false) : x8x ops cs = true := by
 unfold x8x
 rw [hn]
 unfold x1ah at hm
 simp only [List.all_eq_true] at hm ⊢
 intro j hj i hi
 have := hm j hj i hi
 rcases Bool.or_eq_true_iff.1 this with h1 | h1
 ·rw [h1]; rfl
 ·have h2 := hb (i,j) (by simpa using h1)
  simp only at h2
  rw [h2]
  simp
theorem x1n4 {a b : Foot} (ha : a.ro = true) (hb : b.ro = true) : xau a b = false := by
 unfold xau
 rw [ha,hb]
 rfl
section
variable {L n : Nat} {h : H} {al : Int} {rs : List (List Int)} {ac : List Bool}
theorem wgt3 {a b : O} {cs : List A} (ha : x6n a = []) (hb : x6n b = []) : wgt (h ++ [a,b,.box cs]) = wgt h + (idsL cs).length := by
 rw [x7w]
 cases a <;> cases b <;> simp_all [wgt,x6n]
theorem xim (hn : 5 ≤ n) (hs : xp rs) (ha : ac.length ≤ 4294967296) (hL : 2 ^ 60 ≤ L) : ∀ {R : Type} {k : A → H → Option R},x4 env (x2 env L n) h 18 [.agg [.d (.int .i64 al),.d (.ivs rs.length (rowsD rs)),.d (.ivs ac.length (bools ac))]] k = k (autA h.length al rs.length ac.length) (h ++ autO h.length rs ac) := by
 intro R k
 have hne : autO 0 rs ac = .vec (xb 2 rs ++ xf 0) 1 0 :: (.arr (bools ac) 1 0 :: xg rs) := rfl
 have he := x1ej hn al rs ac hs ha hL
 rw [hne] at he
 rw [xug rfl xa7 he]
 have hl : (O.arr (bools ac) 1 0 :: xg rs).length + 1 = rs.length + 2 := by simp [x1h]
 rw [hl,← hne,x1lb rfl]
 have h2 : (autO 0 rs ac).map (mapO (back [] h.length (rs.length + 2))) = autO h.length rs ac := x1lb rfl
 rw [h2]
 rw [x19h (a := 0) (b := 0) (xcx (by omega)) (xcx (by omega)),x19h (a := 0) (b := h.length) (xcx (by omega)) (xcx (by omega))]
theorem x1u7 {args : List A} (hn : 6 ≤ n) (hs : xp rs) (ha : ac.length ≤ 4294967296) (hr : rdAs h args = some [autD al rs ac,autD al rs ac]) (hw : (idsL args).length + wgt h ≤ 1099511627776) (hL : 2 ^ 60 ≤ L) : ∀ {R : Type} {k : A → H → Option R},x4 env (x2 env L n) h 21 args k = k (.d (.bool true)) h := by
 intro R k
 rw [x101 x19 hr hw]
 exact xxw hn al rs ac hs ha hL
theorem rd2 {a b x y : A} (ha : rdA h a = some x) (hb : rdA h b = some y) : rdAs h [a,b] = some [x,y] := by
 simp only [rdAs,ha,hb]
end
end
def x9q (l : Int) : UInt8 := UInt8.ofNat (97 + l).toNat
theorem x1fy {l : Int} (h0 : 0 ≤ l) (h : l ≤ 5) : IntKind.u8.wrap (97 + l) = ((x9q l).toNat : Int) := by
 rw [x254 (by omega) (by omega)]
 unfold x9q
 rw [UInt8.toNat_ofNat']
 omega
theorem x1c4 {L n : Nat} (hn : 1 ≤ n) (l : Int) (h0 : 0 ≤ l) (h : l ≤ 5) : x2 env L n 50 [.d (.int .i64 l)] [] = some (.d (.int .u8 (x9q l).toNat),[]) := by
 have e : IntKind.u8.wrap (97 + l) = ((x9q l).toNat : Int) := x1fy h0 h
 obtain _ | n := n; omega
 rw [x1ar]
 simp only [xx2,Try.f50,SLM,simprocAttr]
 simp -implicitDefEqProofs (maxSteps := 2000000) (disch := first | assumption | exact ⟨by kernel_rfl⟩ | omega | (simp only [GT,LN] <;> omega) | fail) only [↓DN,↓kAsg,↓kRet,UP,simprocAttr,↓x1eq,e]
theorem xkl {R : Type} {L n : Nat} {hq : H} {k : A → H → Option R} (hn : 1 ≤ n) (l : Int) (h0 : 0 ≤ l) (h : l ≤ 5) : x4 env (x2 env L n) hq 50 [.d (.int .i64 l)] k = k (.d (.int .u8 (x9q l).toNat)) hq :=
 xh rfl (x1c4 hn l h0 h) rfl (.inl rfl)
def xy (l : List (List UInt8)) : List D := l.map .str
theorem xc0 {l : List (List UInt8)} : (xy l).length = l.length := by simp [xy]
theorem x1dl {l : List (List UInt8)} {k : Nat} (h : k < l.length) : (((xy l).drop k).map A.d).head? = some (.d (.str (l.getD k []))) := by
 rw [List.head?_map,List.head?_drop,xy,List.getElem?_map,List.getD_eq_getElem?_getD,List.getElem?_eq_getElem h]
 rfl
abbrev Str := List UInt8
theorem xar {l : List Str} {k : Nat} (h : l.length ≤ k) : (xy l).take k = xy l := List.take_of_length_le (by rw [xc0]; exact h)
theorem x1a6 {l : List Str} {v : Str} : xy l ++ [.str v] = xy (l ++ [v]) := by simp [xy]
theorem xuo : xy [] = [] := rfl
theorem x1to {l : List Str} {k : Nat} {v : Str} (h : k < l.length) : x35 (xy l) k [.str v] = xy (l.set k v) := xjt _ l k v h
theorem x1qo {l : List Str} {k : Nat} : (xy l).drop k = xy (l.drop k) := by simp [xy]
theorem SE : type_of% (AI @xc0 (AI @xar @x1dl)) :=
 ⟨@xc0,@xar,@x1dl⟩
theorem x24j : env.P.cellsOf 9 = 1 := by kernel_rfl
theorem x24o : (env.P.info? 9).isSome = true := by kernel_rfl
theorem x23s {h : H} {g e k : Nat} {l : List Str} {b : Str} (hk : k < l.length) : x92 env.P (.arr (xy l) e g :: h) 9 (.ptr 0 g k) (.d (.str b)) = some (.arr (xy (l.set k b)) e g :: h) := by
 rw [xcv (id := 0) rfl x24j x24o rfl (by rw [xc0]; exact hk),x1to hk]
 rfl
def digB (k : Int) : UInt8 := UInt8.ofNat (48 + (k.tmod 10).toNat)
def digT : Nat → Int → Str → Str
 | 0,_,o => o
 | j + 1,k,o => if 0 < k then digT j (k.tdiv 10) (digB k :: o) else o
def xnc (k : Int) : Str := if k ≤ 0 then [109,48] else 109 :: digT 20 k []
theorem x1zq {k : Int} (h : 0 ≤ k) : IntKind.u8.wrap (48 + k.tmod 10) = ((digB k).toNat : Int) := by
 have h1 : 0 ≤ k.tmod 10 ∧ k.tmod 10 < 10 := by
  rw [Int.tmod_eq_emod_of_nonneg h]; omega
 unfold digB
 generalize k.tmod 10 = r at *
 obtain ⟨m,rfl⟩ : ∃ m : Nat,r = m := ⟨r.toNat,by omega⟩
 have hm : m < 10 := by omega
 match m,hm with
 | 0,_ => rfl
 | 1,_ => rfl
 | 2,_ => rfl
 | 3,_ => rfl
 | 4,_ => rfl
 | 5,_ => rfl
 | 6,_ => rfl
 | 7,_ => rfl
 | 8,_ => rfl
 | 9,_ => rfl
 | m + 10,h => omega
def kEnd : Nat → Int → Int
 | 0,k => k
 | j + 1,k => if 0 < k then kEnd j (k.tdiv 10) else k
theorem x10x {R : Type} {L n : Nat} (hn : 1 ≤ n) {k : Exit → List A → H → Option R} : ∀ (j : Nat) (q : Int) (m : Nat) (o : Str) (h0 : 0 ≤ q) (hb : q ≤ 1000000000000) (hq : q < 10 ^ j) (hj : j ≤ 20) (hm : j < m) (ho : o.length + j ≤ 1000),
  xc env (x2 env L n) L 0 [] (U1 (Z1 (U2 (Z16 ([]))))) (xh7 0) (Z1 (U1 (Z2 (U16 ([]))))) m (.d (.int .i64 q) :: Y1 (.d (.str ([])) :: .d (.str o) :: Y16 ([]))) [] k
  = k (.exit 0) (.d (.int .i64 ((kEnd j q))) :: Y1 (.d (.str ([])) :: .d (.str ((digT j q o))) :: Y16 ([]))) [] := by
 intro j
 induction j with
 | zero =>
  intro q m o h0 hb hq hj hm ho
  obtain _ | m := m; omega
  obtain rfl : q = 0 := by simp at hq; omega
  rw [xjh]
  simp only [xjo,Try.f66,SLM,simprocAttr]
  simp -implicitDefEqProofs (maxSteps := 2000000) (disch := first | assumption | exact ⟨by kernel_rfl⟩ | omega | (simp only [GT,LN] <;> omega) | fail) only [↓DN,↓kAsg,↓kRet,UP,simprocAttr]
  rfl
 | succ j ih =>
  intro q m o h0 hb hq hj hm ho
  obtain _ | m := m; omega
  simp only [kEnd,digT]
  by_cases hp : 0 < q
  ·have t0 : 0 ≤ q.tdiv 10 := Int.tdiv_nonneg h0 (by omega)
   have t2 : q.tdiv 10 ≤ q := by
    rw [Int.tdiv_eq_ediv_of_nonneg h0]; omega
   have t1 : q.tdiv 10 < 10 ^ j := by
    rw [Int.tdiv_eq_ediv_of_nonneg h0]
    refine Int.ediv_lt_of_lt_mul (by omega) ?_
    rw [Int.pow_succ] at hq; exact hq
   have ih' := ih (q.tdiv 10) m (digB q :: o) t0 (by omega) t1 (by omega) (by omega) (by simp; omega)
   have e := x1zq h0
   have e2 : [D.int .u8 ((digB q).toNat : Int)] = x26 [digB q] := rfl
   have r1 : 0 ≤ q.tmod 10 ∧ q.tmod 10 < 10 := by rw [Int.tmod_eq_emod_of_nonneg h0]; omega
   obtain ⟨r1,r2⟩ := r1
   have e3 : IntKind.i64.wrap (q.tdiv 10) = q.tdiv 10 := xoa (by omega) (by omega)
   clear ih hq
   simp only [if_pos hp]
   rw [xjh]
   simp only [xjo,Try.f66,SLM,simprocAttr]
   simp -implicitDefEqProofs (maxSteps := 2000000) (disch := first | assumption | exact ⟨by kernel_rfl⟩ | omega | (simp only [GT,LN] <;> omega) | fail) only [↓DN,↓kAsg,↓kRet,UP,simprocAttr,hp,e,e2,e3,↓xmw,List.cons_append,List.nil_append,↓ih']
  ·simp only [if_neg hp]
   clear ih hq
   rw [xjh]
   simp only [xjo,Try.f66,SLM,simprocAttr]
   simp -implicitDefEqProofs (maxSteps := 2000000) (disch := first | assumption | exact ⟨by kernel_rfl⟩ | omega | (simp only [GT,LN] <;> omega) | fail) only [↓DN,↓kAsg,↓kRet,UP,simprocAttr,hp]
theorem x1ox {L n : Nat} (hn : 2 ≤ n) (q : Int) (hb : q ≤ 1000000000000) (hL : 2 ^ 60 ≤ L) : x2 env L n 66 [.d (.int .i64 q)] [] = some (.d (.str (xnc q)),[]) := by
 unfold xnc
 by_cases h : q ≤ 0
 ·simp only [if_pos h]
  obtain _ | n := n; omega
  rw [x173]
  simp only [x102,Try.f66,SLM,simprocAttr]
  simp -implicitDefEqProofs (maxSteps := 2000000) (disch := first | assumption | exact ⟨by kernel_rfl⟩ | omega | (simp only [GT,LN] <;> omega) | fail) only [↓DN,↓kAsg,↓kRet,UP,simprocAttr,↓x10x,h]
 ·simp only [if_neg h]
  have loop_c := fun {R : Type} {n : Nat} {k : Exit → List A → H → Option R} (hn : 1 ≤ n) => @x10x R L n hn k 20 q L [] (by omega) hb (by omega) (by omega) (by omega) (by simp)
  have hl : (digT 20 q []).length ≤ 20 := by
   have key : ∀ (j : Nat) (q : Int) (o : Str),(digT j q o).length ≤ o.length + j := by
    intro j
    induction j with
    | zero => intro q o; exact Nat.le_refl _
    | succ j ih =>
     intro q o
     unfold digT
     split
     ·have := ih (q.tdiv 10) (digB q :: o); simp at this ⊢; omega
     ·omega
   simpa using key 20 q []
  generalize digT 20 q [] = w at *
  obtain _ | n := n; omega
  rw [x173]
  simp only [x102,Try.f66,SLM,simprocAttr]
  simp -implicitDefEqProofs (maxSteps := 2000000) (disch := first | assumption | exact ⟨by kernel_rfl⟩ | omega | (simp only [GT,LN] <;> omega) | fail) only [↓DN,↓kAsg,↓kRet,UP,simprocAttr,h,↓loop_c,List.cons_append,List.nil_append]
theorem x9r {R : Type} {L n : Nat} {hq : H} {k : A → H → Option R} (hn : 2 ≤ n) (q : Int) (hb : q ≤ 1000000000000) (hL : 2 ^ 60 ≤ L) : x4 env (x2 env L n) hq 66 [.d (.int .i64 q)] k = k (.d (.str (xnc q))) hq :=
 xh rfl (x1ox hn q hb hL) rfl (.inl rfl)
def xa5 (c : Int) : Nat → List Str
 | 0 => []
 | j + 1 => xnc c :: xa5 (c + 1) j
theorem xfc : ∀ (j : Nat) (c : Int),(xa5 c j).length = j
 | 0,_ => rfl
 | j + 1,c => by simp [xa5,xfc j]
theorem x1dj : ∀ (j : Nat) (c : Int) (i : Nat),i < j → (xa5 c j).getD i [] = xnc (c + i)
 | 0,_,_,h => by omega
 | j + 1,c,0,_ => by simp [xa5]
 | j + 1,c,i + 1,h => by
  have := x1dj j (c + 1) i (by omega)
  simp only [xa5,List.getD_cons_succ,this]
  congr 1; omega
theorem x18u {R : Type} {L n : Nat} (hn : 3 ≤ n) (hL : 2 ^ 60 ≤ L) {z : Nat} (hz : z ≤ 16777216) {k : Exit → List A → H → Option R} : ∀ (j i m : Nat) (c : Int) (o : List Str) (len : Nat) (hi : i + j = z) (hm : j < m) (ho : o.length = z) (hlen : len = z) (hc0 : 0 ≤ c) (hc1 : c + j ≤ 1000000000000),
  xc env (x2 env L n) L (1) [] (U2 (Z2 (U2 (Z8 (Z4 (Z2 ([]))))))) (x9y 0) (Z2 (U2 (Z2 (U8 (U4 (U2 ([]))))))) m (.sl 0 0 0 len :: .d (.int .i64 c) :: Y2 (.d (.int .i64 0) :: .d (.int .i64 ((i : Int))) :: Y8 (Y4 (Y2 ([]))))) [.arr (xy o) 1 0] k
  = k (.exit 0) (.sl 0 0 0 len :: .d (.int .i64 ((c + j))) :: Y2 (.d (.int .i64 0) :: .d (.int .i64 ((z : Int))) :: Y8 (Y4 (Y2 ([]))))) [.arr (xy (o.take i ++ xa5 c j)) 1 0] := by
 intro j
 induction j with
 | zero =>
  intro i m c o len hi hm ho hlen hc0 hc1
  obtain _ | m := m; omega
  obtain rfl : i = z := by omega
  subst hlen
  have e : o.take len = o := List.take_of_length_le (by omega)
  rw [xen]
  simp only [xdv,Try.f23,SLM,simprocAttr]
  simp -implicitDefEqProofs (maxSteps := 2000000) (disch := first | assumption | exact ⟨by kernel_rfl⟩ | omega | (simp only [GT,LN] <;> omega) | fail) only [↓DN,↓kAsg,↓kRet,UP,simprocAttr,↓x9r,SE,Int.lt_irrefl]
  simp [xa5,e]
 | succ j ih =>
  intro i m c o len hi hm ho hlen hc0 hc1
  obtain _ | m := m; omega
  subst hlen
  have hk : i < o.length := by omega
  have hc : (i : Int) < len := by omega
  have hi0 : (0 : Int) ≤ i := by omega
  have ih' := ih (i + 1) m (c + 1) (o.set i (xnc c)) len (by omega) (by omega) (by simpa using ho) rfl (by omega) (by omega)
  rw [show ((i + 1 : Nat) : Int) = (i : Int) + 1 by omega,xio hk,show c + 1 + (j : Int) = c + ((j + 1 : Nat) : Int) by omega] at ih'
  have hcb : c ≤ 1000000000000 := by omega
  simp only [xa5]
  clear ih
  rw [xen]
  simp only [xdv,Try.f23,SLM,simprocAttr]
  simp -implicitDefEqProofs (maxSteps := 2000000) (disch := first | assumption | exact ⟨by kernel_rfl⟩ | omega | (simp only [GT,LN] <;> omega) | fail) only [↓DN,↓kAsg,↓kRet,UP,simprocAttr,↓x9r,SE,hc,hi0,hcb,Int.toNat_natCast,↓x23s,↓ih']
theorem x1fk {L n : Nat} (hn : 4 ≤ n) (hL : 2 ^ 60 ≤ L) (l : List Str) (hl : l.length ≤ 16777216) : x2 env L n 23 [.sl 0 0 0 l.length,.d (.int .i64 1)] [.arr (xy l) 1 0] = some (.d (.int .i64 (1 + l.length)),[.arr (xy (xa5 1 l.length)) 1 0]) := by
 have loop_c := fun {R : Type} {n : Nat} {k : Exit → List A → H → Option R} (hn : 3 ≤ n) => @x18u R L n hn hL l.length hl k l.length 0 L 1 l l.length (by omega) (by omega) rfl rfl (by omega) (by omega)
 simp only [Int.natCast_zero,List.take_zero,List.nil_append] at loop_c
 obtain _ | n := n; omega
 rw [xww]
 simp only [xpe,Try.f23,SLM,simprocAttr]
 simp -implicitDefEqProofs (maxSteps := 2000000) (disch := first | assumption | exact ⟨by kernel_rfl⟩ | omega | (simp only [GT,LN] <;> omega) | fail) only [↓DN,↓kAsg,↓kRet,UP,simprocAttr,↓x9r,SE,↓loop_c]
theorem x19l {R : Type} {L n : Nat} (hn : 3 ≤ n) (hL : 2 ^ 60 ≤ L) {z : Nat} (hz : z ≤ 16777216) {l : List Str} (hll : l.length = z) {k : Exit → List A → H → Option R} : ∀ (j i m : Nat) (c : Int) (hi : i + j = z) (hm : j < m) (hc0 : 0 ≤ c) (hc1 : c + j ≤ 1000000000000) (hg : ∀ q,q < j → l.getD (i + q) [] = xnc (c + q)),
  xc env (x2 env L n) L 0 [] (U2 (Z2 (U2 (Z16 ([]))))) (xc8 0) (Z2 (U2 (Z2 (U16 ([]))))) m (.d (.ivs l.length (xy l)) :: .d (.int .i64 c) :: Y2 (.d (.int .i64 0) :: .d (.int .i64 ((i : Int))) :: Y16 ([]))) [] k
  = k (.exit 0) (.d (.ivs l.length (xy l)) :: .d (.int .i64 ((c + j))) :: Y2 (.d (.int .i64 0) :: .d (.int .i64 ((z : Int))) :: Y16 ([]))) [] := by
 intro j
 induction j with
 | zero =>
  intro i m c hi hm hc0 hc1 hg
  obtain _ | m := m; omega
  obtain rfl : i = z := by omega
  subst hll
  rw [xo9]
  simp only [xkv,Try.f24,SLM,simprocAttr]
  simp -implicitDefEqProofs (maxSteps := 2000000) (disch := first | assumption | exact ⟨by kernel_rfl⟩ | omega | (simp only [GT,LN] <;> omega) | fail) only [↓DN,↓kAsg,↓kRet,UP,simprocAttr,↓x9r,SE,Int.lt_irrefl]
  all_goals simp
 | succ j ih =>
  intro i m c hi hm hc0 hc1 hg
  obtain _ | m := m; omega
  subst hll
  have hk : i < l.length := by omega
  have hc : (i : Int) < l.length := by omega
  have hi0 : (0 : Int) ≤ i := by omega
  have hg0 := hg 0 (by omega)
  simp only [Nat.add_zero,Int.natCast_zero,Int.add_zero] at hg0
  have ih' := ih (i + 1) m (c + 1) (by omega) (by omega) (by omega) (by omega) (fun q hq => by
   have := hg (q + 1) (by omega)
   rw [show i + 1 + q = i + (q + 1) by omega,this]; congr 1; omega)
  rw [show ((i + 1 : Nat) : Int) = (i : Int) + 1 by omega,show c + 1 + (j : Int) = c + ((j + 1 : Nat) : Int) by omega] at ih'
  have hcb : c ≤ 1000000000000 := by omega
  clear ih hg
  rw [xo9]
  simp only [xkv,Try.f24,SLM,simprocAttr]
  simp -implicitDefEqProofs (maxSteps := 2000000) (disch := first | assumption | exact ⟨by kernel_rfl⟩ | omega | (simp only [GT,LN] <;> omega) | fail) only [↓DN,↓kAsg,↓kRet,UP,simprocAttr,↓x9r,SE,hc,hi0,hcb,hg0,Int.toNat_natCast,bne_self_eq_false,↓ih']
theorem xn0 {L n : Nat} (hn : 4 ≤ n) (l : List Str) (hl : l.length ≤ 16777216) (hg : ∀ q : Nat,q < l.length → l.getD q [] = xnc (1 + q)) (hL : 2 ^ 60 ≤ L) : x2 env L n 24 [.d (.ivs l.length (xy l)),.d (.int .i64 1)] [] = some (.d (.int .i64 (1 + l.length)),[]) := by
 have loop_c := fun {R : Type} {n : Nat} {k : Exit → List A → H → Option R} (hn : 3 ≤ n) => @x19l R L n hn hL l.length hl l rfl k l.length 0 L 1 (by omega) (by omega) (by omega) (by omega) (fun q hq => by rw [Nat.zero_add]; exact hg q hq)
 simp only [Int.natCast_zero] at loop_c
 clear hg
 obtain _ | n := n; omega
 rw [x1er]
 simp only [x110,Try.f24,SLM,simprocAttr]
 simp -implicitDefEqProofs (maxSteps := 2000000) (disch := first | assumption | exact ⟨by kernel_rfl⟩ | omega | (simp only [GT,LN] <;> omega) | fail) only [↓DN,↓kAsg,↓kRet,UP,simprocAttr,↓x9r,SE,↓loop_c]
theorem x1eu {R : Type} {L n : Nat} {hq : H} {k : A → H → Option R} (hn : 4 ≤ n) (l : List Str) (hl : l.length ≤ 16777216) (hg : ∀ q : Nat,q < l.length → l.getD q [] = xnc (1 + q)) (hL : 2 ^ 60 ≤ L) : x4 env (x2 env L n) hq 24 [.d (.ivs l.length (xy l)),.d (.int .i64 1)] k = k (.d (.int .i64 (1 + l.length))) hq :=
 xh rfl (xn0 hn l hl hg hL) rfl (.inl rfl)
theorem x1eg {R : Type} {L n : Nat} {k : A → Option R} (hn : 4 ≤ n) (l : List Str) (hl : l.length ≤ 16777216) (hg : ∀ q : Nat,q < l.length → l.getD q [] = xnc (1 + q)) (hL : 2 ^ 60 ≤ L) : xk (x2 env L n) 24 [.d (.ivs l.length (xy l)),.d (.int .i64 1)] k = k (.d (.int .i64 (1 + l.length))) :=
 x2c (xn0 hn l hl hg hL) rfl
theorem x197 {R : Type} {L n : Nat} {hq : H} {k : A → H → Option R} {id0 g0 o0 len0 : Nat}  : x4 env (x2 env L n) hq 24 [.sl id0 g0 o0 len0,.d (.int .i64 1)] k = match box (xw hq [.sl id0 g0 o0 len0,.d (.int .i64 1)]) with
  | .mk (some fs) => xk (x2 env L n) 24 fs fun r => k r hq
  | _ => none := x9 xch
theorem x1ff {R : Type} {L n : Nat} (hn : 1 ≤ n) {l : List Str} (hl : l.length ≤ 4294967296) {k : Exit → List A → H → Option R} : ∀ (i : Int) (m : Nat) (h0 : 0 ≤ i) (hi : i ≤ l.length) (hm : (l.length : Int) - i < m),
  xc env (x2 env L n) L 0 [] (U2 (Z2 (U2 (Z16 (Z4 ([])))))) (xew 0) (Z2 (U2 (Z2 (U16 (U4 ([])))))) m (.d (.ivs l.length (xy l)) :: .d (.ivs l.length (xy l)) :: Y2 (.d (.bool false) :: .d (.int .i64 i) :: Y16 (Y4 ([])))) [] k
  = k (.exit 0) (.d (.ivs l.length (xy l)) :: .d (.ivs l.length (xy l)) :: Y2 (.d (.bool false) :: .d (.int .i64 (l.length)) :: Y16 (Y4 ([])))) [] := by
 intro i m h0 hi hm
 obtain ⟨j,hj⟩ : ∃ j : Nat,(j : Int) = (l.length : Int) - i := ⟨((l.length : Int) - i).toNat,by omega⟩
 induction j generalizing i m with
 | zero =>
  obtain _ | m := m; omega
  obtain rfl : i = l.length := by omega
  rw [xs6]
  simp only [xph,Try.f20,SLM,simprocAttr]
  simp -implicitDefEqProofs (maxSteps := 2000000) (disch := first | assumption | exact ⟨by kernel_rfl⟩ | omega | (simp only [GT,LN] <;> omega) | fail) only [↓DN,↓kAsg,↓kRet,UP,simprocAttr,SE,Int.lt_irrefl]
 | succ j ih =>
  obtain _ | m := m; omega
  have hc : i < l.length := by omega
  have hk : i.toNat < l.length := by omega
  rw [xs6]
  simp only [xph,Try.f20,SLM,simprocAttr]
  simp -implicitDefEqProofs (maxSteps := 2000000) (disch := first | assumption | exact ⟨by kernel_rfl⟩ | omega | (simp only [GT,LN] <;> omega) | fail) only [↓DN,↓kAsg,↓kRet,UP,simprocAttr,SE,hc,bne_self_eq_false,↓ih]
theorem xry {L n : Nat} (hn : 2 ≤ n) (l : List Str) (hl : l.length ≤ 4294967296) (hL : 2 ^ 60 ≤ L) : x2 env L n 20 [.d (.ivs l.length (xy l)),.d (.ivs l.length (xy l))] [] = some (.d (.bool true),[]) := by
 obtain _ | n := n; omega
 rw [x1lm]
 simp only [x17x,Try.f20,SLM,simprocAttr]
 simp -implicitDefEqProofs (maxSteps := 2000000) (disch := first | assumption | exact ⟨by kernel_rfl⟩ | omega | (simp only [GT,LN] <;> omega) | fail) only [↓DN,↓kAsg,↓kRet,UP,simprocAttr,↓x1ff,SE]
theorem x1ln {R : Type} {L n : Nat} {hq : H} {k : A → H → Option R} (hn : 2 ≤ n) (l : List Str) (hl : l.length ≤ 4294967296) (hL : 2 ^ 60 ≤ L) : x4 env (x2 env L n) hq 20 [.d (.ivs l.length (xy l)),.d (.ivs l.length (xy l))] k = k (.d (.bool true)) hq :=
 xh rfl (xry hn l hl hL) rfl (.inl rfl)
theorem x1la {R : Type} {L n : Nat} {k : A → Option R} (hn : 2 ≤ n) (l : List Str) (hl : l.length ≤ 4294967296) (hL : 2 ^ 60 ≤ L) : xk (x2 env L n) 20 [.d (.ivs l.length (xy l)),.d (.ivs l.length (xy l))] k = k (.d (.bool true)) :=
 x2c (xry hn l hl hL) rfl
theorem x1ec {R : Type} {L n : Nat} {hq : H} {k : A → H → Option R} {id0 g0 o0 len0 : Nat} {l : List Str} : x4 env (x2 env L n) hq 20 [.sl id0 g0 o0 len0,.d (.ivs l.length (xy l))] k = match box (xw hq [.sl id0 g0 o0 len0,.d (.ivs l.length (xy l))]) with
  | .mk (some fs) => xk (x2 env L n) 20 fs fun r => k r hq
  | _ => none := x9 xa0
theorem x1eo {R : Type} {L n : Nat} {hq : H} {k : A → H → Option R} {id1 g1 o1 len1 : Nat} {l : List Str} : x4 env (x2 env L n) hq 20 [.d (.ivs l.length (xy l)),.sl id1 g1 o1 len1] k = match box (xw hq [.d (.ivs l.length (xy l)),.sl id1 g1 o1 len1]) with
  | .mk (some fs) => xk (x2 env L n) 20 fs fun r => k r hq
  | _ => none := x9 xa0
theorem x1f7 {R : Type} {L n : Nat} {hq : H} {k : A → H → Option R} {id1 g1 o1 len1 : Nat} {id0 g0 o0 len0 : Nat}  : x4 env (x2 env L n) hq 20 [.sl id0 g0 o0 len0,.sl id1 g1 o1 len1] k = match box (xw hq [.sl id0 g0 o0 len0,.sl id1 g1 o1 len1]) with
  | .mk (some fs) => xk (x2 env L n) 20 fs fun r => k r hq
  | _ => none := x9 xa0
section
theorem x14c : ∀ (rs : List (List Int)) (l : Int),0 ≤ x73 rs l → (x6 rs : Int) ≤ l
 | [],l,h => by simpa [x73,x6] using h
 | r :: rs,l,h => by
  simp only [x73] at h
  split at h
  ·omega
  ·have := x14c rs _ h
   simp only [x6]
   omega
theorem x1ij {rs : List (List Int)} {ac : List Bool} (h : ¬ szA rs ac 1048576 < 0) : x6 rs ≤ 1048576 := by
 unfold szA at h
 split at h
 ·omega
 ·rename_i h1
  unfold szSS at h1
  split at h1
  ·omega
  ·have := x14c rs (1048576 - rs.length) (by omega)
   omega
theorem xf6 {al : Int} {rs : List (List Int)} {ac : List Bool} : idsA (autD al rs ac) = [] := rfl
theorem x1ky {E : Env} {f : FuncId} {h : H} {ord : List Nat} (hm : (E.hint f).mode = 1) : xbi E f h h ord = some (h,{ ids := ord,ro := true }) := by
 unfold xbi
 rw [hm]
 simp
theorem x1h2 {E : Env} {f : FuncId} {h t : H} (hm : (E.hint f).mode = 2) : xbi E f h (h ++ t) [] = some (h ++ t,{ ids := List.range' h.length t.length,ro := false }) := by
 unfold xbi
 rw [hm]
 simp [wrC]
theorem x8r {h h2 : H} {i : Nat} {o : O} (hi : h[i]? = some o) : (h ++ h2)[i]? = some o := by
 rw [List.getElem?_append_left (x9t hi)]; exact hi
theorem xze {a : A} {i n k : Nat} (hi : idsA a = [i]) (h : i < n) : xau { ids := idsA a } { ids := List.range' n k,ro := false } = false := by
 rw [hi]
 unfold xau
 simp only [Bool.not_true,Bool.false_and,Bool.not_false,Bool.true_and,Bool.false_or,List.any_eq_false,List.mem_range'_1,List.contains_iff_mem,List.mem_singleton]
 intro x hx
 omega
theorem xsn {h : H} {id : Nat} {l : List Str} (hi : h[id]? = some (.arr (xy l) 1 0)) : rdA h (.sl id 0 0 l.length) = some (.d (.ivs l.length (xy l))) := by
 have e : (xy l).take l.length = xy l := xar (Nat.le_refl _)
 simp [rdA,rd1,rd0,hi,xc0,e]
theorem x1sf (l : List Str) : xa6 (.arr (xy l) 1 0) = true := by
 have key : ∀ l : List Str,(l.map D.str).all xes = true := by
  intro l
  induction l with
  | nil => rfl
  | cons s l ih => simp only [List.map_cons,List.all_cons,ih,Bool.and_true]; rfl
 simp only [xa6]
 exact key l
theorem x1k0 {R : Type} {E : Env} {call : x1e} {h : H} {f : FuncId} {k : A → H → Option R} {args fs : List A} {l : List Str} (hm : (E.hint f).mode = 3) (hr : rdAs h args = some fs) (hw : (idsL args).length + wgt h ≤ 1099511627776)
  (hc : call f fs [] = some (.sl 0 0 0 l.length,[.arr (xy l) 1 0])) : x4 E call h f args k = k (.sl h.length 0 0 l.length) (h ++ [.arr (xy l) 1 0]) := by
 rw [x1g2 hm hr hw hc (by rw [List.all_cons,x1sf]; rfl)]
 simp [mapA,back,mapO]
theorem x219 {R : Type} {E : Env} {call : x1e} {h : H} {f : FuncId} {k : A → H → Option R} {args fs : List A} {x : D} (hm : (E.hint f).mode = 3) (hr : rdAs h args = some fs) (hw : (idsL args).length + wgt h ≤ 1099511627776)
  (hc : call f fs [] = some (.d x,[])) (hx : xes x = true) : x4 E call h f args k = k (.d x) h := by
 rw [x1g2 hm hr hw hc (by simp [xcb,hx])]
 simp [mapA]
theorem x1b7 : ∀ {h : H} {i : Nat} {o : O},i < h.length → x6n o = [] → wgt (h.set i o) ≤ wgt h
 | [],i,o,hi,_ => by simp at hi
 | x :: h,0,o,_,ho => by
  have e1 := x7w [o] h
  have e2 := x7w [x] h
  have e3 : wgt [o] = 0 := by
   cases o <;> simp [wgt,x6n] at ho ⊢ <;> simp [ho]
  simp only [List.set_cons_zero]
  simp only [List.cons_append,List.nil_append] at e1 e2
  omega
 | x :: h,i + 1,o,hi,ho => by
  have ih := x1b7 (h := h) (i := i) (o := o) (by simpa using hi) ho
  have e1 := x7w [x] (h.set i o)
  have e2 := x7w [x] h
  simp only [List.set_cons_succ]
  simp only [List.cons_append,List.nil_append] at e1 e2
  omega
theorem x14w {R : Type} {L n m : Nat} {k : Exit → List A → H → Option R} : xc env (x2 env L n) L (0) [] (U2 (Z2 (U2 (Z8 (Z4 (Z2 ([]))))))) (x9y 0) (Z2 (U2 (Z2 (U8 (U4 (U2 ([]))))))) (m + 1) (.d (.ivs 0 []) :: .d (.int .i64 1) :: Y2 (.d (.int .i64 0) :: .d (.int .i64 0) :: Y8 (Y4 (Y2 ([]))))) [] k = k (.exit 0) (.d (.ivs 0 []) :: .d (.int .i64 1) :: Y2 (.d (.int .i64 0) :: .d (.int .i64 0) :: Y8 (Y4 (Y2 ([]))))) [] := by
 rw [xen]
 simp only [xdv,Try.f23,SLM,simprocAttr]
 simp -implicitDefEqProofs (maxSteps := 2000000) (disch := first | assumption | exact ⟨by kernel_rfl⟩ | omega | (simp only [GT,LN] <;> omega) | fail) only [↓DN,↓kAsg,↓kRet,UP,simprocAttr,↓x9r,Int.lt_irrefl]
theorem x165 {L n : Nat} (hn : 4 ≤ n) (hL : 2 ^ 60 ≤ L) : x2 env L n 23 [.d (.ivs 0 []),.d (.int .i64 1)] [] = some (.d (.int .i64 1),[]) := by
 have loop_c := fun {R : Type} {n : Nat} {k : Exit → List A → H → Option R} => @x14w R L n (L - 1) k
 rw [show L - 1 + 1 = L by omega] at loop_c
 obtain _ | n := n; omega
 rw [xww]
 simp only [xpe,Try.f23,SLM,simprocAttr]
 simp -implicitDefEqProofs (maxSteps := 2000000) (disch := first | assumption | exact ⟨by kernel_rfl⟩ | omega | (simp only [GT,LN] <;> omega) | fail) only [↓DN,↓kAsg,↓kRet,UP,simprocAttr,↓x9r,↓loop_c]
section
variable {L n : Nat} {h : H}
theorem xr9 {l : List Str} {args : List A} (hn : 2 ≤ n) (hl : l.length ≤ 4294967296) (hr : rdAs h args = some [.d (.ivs l.length (xy l)),.d (.ivs l.length (xy l))]) (hw : (idsL args).length + wgt h ≤ 1099511627776) (hL : 2 ^ 60 ≤ L) : ∀ {R : Type} {k : A → H → Option R},x4 env (x2 env L n) h 20 args k = k (.d (.bool true)) h := by
 intro R k
 rw [x101 xa0 hr hw]
 exact x2c (xry hn l hl hL) rfl
theorem xvk {l : List Str} {args : List A} (hn : 4 ≤ n) (hl : l.length ≤ 16777216) (hr : rdAs h args = some [.d (.ivs l.length (xy (xa5 1 l.length))),.d (.int .i64 1)]) (hw : (idsL args).length + wgt h ≤ 1099511627776) (hL : 2 ^ 60 ≤ L) : ∀ {R : Type} {k : A → H → Option R},x4 env (x2 env L n) h 24 args k = k (.d (.int .i64 (1 + l.length))) h := by
 intro R k
 rw [x101 xch hr hw]
 have := xn0 hn (xa5 1 l.length) (by rw [xfc]; exact hl) (fun q hq => by rw [xfc] at hq; exact x1dj _ _ _ hq) hL
 rw [xfc] at this
 exact x2c this rfl
end
end
section
def xdz : List Int → List Int → Prop
 | a :: x,b :: y => a < b ∨ a = b ∧ xdz x y
 | _,_ => False
def slt (x y : List Int) : Prop := x.length < y.length ∨ x.length = y.length ∧ xdz x y
theorem x1gk : ∀ x : List Int,¬ xdz x x
 | [],h => h
 | a :: x,h => by
  rcases h with h | ⟨_,h⟩
  ·omega
  ·exact x1gk x h
theorem x17u : ∀ {x y z : List Int},xdz x y → xdz y z → xdz x z
 | [],_,_,h,_ => h.elim
 | _ :: _,[],_,h,_ => h.elim
 | _ :: _,_ :: _,[],_,h => h.elim
 | a :: x,b :: y,c :: z,h,k => by
  rcases h with h | ⟨rfl,h⟩
  ·rcases k with k | ⟨rfl,k⟩
   ·exact .inl (by omega)
   ·exact .inl h
  ·rcases k with k | ⟨rfl,k⟩
   ·exact .inl k
   ·exact .inr ⟨rfl,x17u h k⟩
theorem x1g9 : ∀ {x y : List Int},x.length = y.length → x = y ∨ xdz x y ∨ xdz y x
 | [],[],_ => .inl rfl
 | [],_ :: _,h => by simp at h
 | _ :: _,[],h => by simp at h
 | a :: x,b :: y,h => by
  rcases Int.lt_trichotomy a b with h1 | h1 | h1
  ·exact .inr (.inl (.inl h1))
  ·subst h1
   rcases x1g9 (x := x) (y := y) (by simpa using h) with h2 | h2 | h2
   ·exact .inl (by rw [h2])
   ·exact .inr (.inl (.inr ⟨rfl,h2⟩))
   ·exact .inr (.inr (.inr ⟨rfl,h2⟩))
  ·exact .inr (.inr (.inl h1))
theorem x1ea (x : List Int) : ¬ slt x x := by
 intro h
 rcases h with h | ⟨_,h⟩
 ·omega
 ·exact x1gk x h
theorem xu7 {x y z : List Int} (h : slt x y) (k : slt y z) : slt x z := by
 rcases h with h | ⟨h1,h⟩ <;> rcases k with k | ⟨k1,k⟩
 ·exact .inl (by omega)
 ·exact .inl (by omega)
 ·exact .inl (by omega)
 ·exact .inr ⟨by omega,x17u h k⟩
theorem x1q6 (x y : List Int) : x = y ∨ slt x y ∨ slt y x := by
 rcases Nat.lt_trichotomy x.length y.length with h | h | h
 ·exact .inr (.inl (.inl h))
 ·rcases x1g9 h with k | k | k
  ·exact .inl k
  ·exact .inr (.inl (.inr ⟨h,k⟩))
  ·exact .inr (.inr (.inr ⟨h.symm,k⟩))
 ·exact .inr (.inr (.inl h))
theorem xqn : ∀ {u v : List Int} {a b : Int},u.length = v.length → (xdz (u ++ [a]) (v ++ [b]) ↔ xdz u v ∨ u = v ∧ a < b)
 | [],[],a,b,_ => by simp [xdz]
 | [],_ :: _,a,b,h => by simp at h
 | _ :: _,[],a,b,h => by simp at h
 | x :: u,y :: v,a,b,h => by
  have ih := xqn (u := u) (v := v) (a := a) (b := b) (by simpa using h)
  simp only [List.cons_append,xdz,ih,List.cons.injEq]
  constructor
  ·rintro (k | ⟨rfl,k | ⟨rfl,k⟩⟩)
   ·exact .inl (.inl k)
   ·exact .inl (.inr ⟨rfl,k⟩)
   ·exact .inr ⟨⟨rfl,rfl⟩,k⟩
  ·rintro ((k | ⟨rfl,k⟩) | ⟨⟨rfl,rfl⟩,k⟩)
   ·exact .inl k
   ·exact .inr ⟨rfl,.inl k⟩
   ·exact .inr ⟨rfl,.inr ⟨rfl,k⟩⟩
theorem xzh {u v : List Int} {a b : Int} : slt (u ++ [a]) (v ++ [b]) ↔ slt u v ∨ u = v ∧ a < b := by
 unfold slt
 simp only [List.length_append,List.length_cons,List.length_nil]
 constructor
 ·rintro (h | ⟨h,k⟩)
  ·exact .inl (.inl (by omega))
  ·have hl : u.length = v.length := by omega
   rcases (xqn hl).1 k with k | k
   ·exact .inl (.inr ⟨hl,k⟩)
   ·exact .inr k
 ·rintro ((h | ⟨h,k⟩) | ⟨rfl,k⟩)
  ·exact .inl (by omega)
  ·exact .inr ⟨by omega,(xqn h).2 (.inl k)⟩
  ·exact .inr ⟨rfl,(xqn rfl).2 (.inr ⟨rfl,k⟩)⟩
def Path (nx : Int → Int → List Int) (ls : List Int) : Int → List Int → Int → Prop
 | v,[],u => v = u
 | v,l :: w,u => l ∈ ls ∧ ∃ m ∈ nx v l,Path nx ls m w u
section
variable {nx : Int → Int → List Int} {ls : List Int}
theorem x1lr : ∀ {x y : List Int} {v u : Int},Path nx ls v (x ++ y) u ↔ ∃ m,Path nx ls v x m ∧ Path nx ls m y u
 | [],y,v,u => by simp [Path]
 | l :: x,y,v,u => by
  simp only [List.cons_append,Path,x1lr (x := x)]
  constructor
  ·rintro ⟨h,m,hm,q,h1,h2⟩
   exact ⟨q,⟨h,m,hm,h1⟩,h2⟩
  ·rintro ⟨q,⟨h,m,hm,h1⟩,h2⟩
   exact ⟨h,m,hm,q,h1,h2⟩
theorem x1gw {w : List Int} {l v u : Int} : Path nx ls v (w ++ [l]) u ↔ l ∈ ls ∧ ∃ m,Path nx ls v w m ∧ u ∈ nx m l := by
 rw [x1lr]
 simp only [Path]
 constructor
 ·rintro ⟨m,h1,h2,q,h3,rfl⟩
  exact ⟨h2,m,h1,h3⟩
 ·rintro ⟨h2,m,h1,h3⟩
  exact ⟨m,h1,h2,u,h3,rfl⟩
def xhi (nx : Int → Int → List Int) (ls start w : List Int) (u : Int) : Prop := ∃ s ∈ start,Path nx ls s w u
def Hits (nx : Int → Int → List Int) (ls start : List Int) (gl : Int → Bool) (w : List Int) : Prop := ∃ u,xhi nx ls start w u ∧ gl u = true
def x156 (P : List Int → Prop) (w : List Int) : Prop := P w ∧ ∀ x,P x → ¬ slt x w
theorem x1ll {P : List Int → Prop} {x y : List Int} (hx : x156 P x) (hy : x156 P y) : x = y := by
 rcases x1q6 x y with h | h | h
 ·exact h
 ·exact (hy.2 x hx.1 h).elim
 ·exact (hx.2 y hy.1 h).elim
def xua (P : List Int → Prop) (r : List Int × Bool) : Prop := (r.2 = true ∧ x156 P r.1) ∨ (r = ([],false) ∧ ∀ w,¬ P w)
theorem xkf {P : List Int → Prop} {r q : List Int × Bool} (hr : xua P r) (hq : xua P q) : r = q := by
 rcases hr with ⟨h1,h2⟩ | ⟨h1,h2⟩ <;> rcases hq with ⟨k1,k2⟩ | ⟨k1,k2⟩
 ·obtain ⟨a,b⟩ := r
  obtain ⟨c,d⟩ := q
  simp only at h1 k1 h2 k2
  subst h1; subst k1
  rw [x1ll h2 k2]
 ·exact (k2 _ h2.1).elim
 ·exact (h2 _ k2.1).elim
 ·rw [h1,k1]
theorem x1qy {P Q : List Int → Prop} {r : List Int × Bool} (h : ∀ w,P w ↔ Q w) (hr : xua P r) : xua Q r := by
 have : P = Q := funext fun w => propext (h w)
 rw [← this]; exact hr
end
end
end Ev
end Go.Proofs.Ytppdfjdfjfoddaa
