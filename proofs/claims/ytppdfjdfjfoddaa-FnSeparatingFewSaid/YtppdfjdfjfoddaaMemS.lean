/-
  Automata that are drawn: one whose bad state is a trap.
-/
import Derived.Test.YtppdfjdfjfoddaaShSf
import Derived.Test.YtppdfjdfjfoddaaRdNew
import Derived.Test.YtppdfjdfjfoddaaMemD
import Derived.Test.YtppdfjdfjfoddaaDrawR
import Derived.Test.YtppdfjdfjfoddaaEnvF
import Derived.Test.YtppdfjdfjfoddaaEvDef
import Derived.Test.YtppdfjdfjfoddaaAutoL
set_option linter.unusedSimpArgs false
set_option linter.unusedVariables false
set_option maxRecDepth 1000000
set_option maxHeartbeats 4000000
namespace Go.Proofs.Ytppdfjdfjfoddaa
namespace Ev
def xkp (x : Int) : Nat → Nat → List Bool → List Bool
 | 0,_,bl => bl
 | j + 1,i,bl => xkp x j (i + 1) (bl.set i (decide ((i : Int) < x)))
theorem x1g2 (x : Int) : ∀ (j i : Nat) (bl : List Bool),(xkp x j i bl).length = bl.length
 | 0,_,_ => rfl
 | j + 1,i,bl => by rw [xkp,x1g2 x j,List.length_set]
def xmh (x : Int) : Nat → Nat → List Int → List Int
 | 0,_,r => r
 | j + 1,i,r => xmh x j (i + 1) (r.set i x)
theorem x127 (x : Int) : ∀ (j i : Nat) (r : List Int),(xmh x j i r).length = r.length
 | 0,_,_ => rfl
 | j + 1,i,r => by rw [xmh,x127 x j,List.length_set]
theorem x1t0 {l : List Bool} {k : Nat} {v : Bool} (h : k < l.length) : List.take k (xb l) ++ [D.bool v] ++ List.drop (k + 1) (xb l) = xb (l.set k v) := x1fc h
theorem x18a {l : List Int} {k : Nat} {v : Int} (h : k < l.length) : List.take k (ints l) ++ [D.int .i64 v] ++ List.drop (k + 1) (ints l) = ints (l.set k v) := xzj h
theorem xas {rs : List (List Int)} {k : Nat} (h : k < rs.length) : ((x3 7 rs ++ x6 0).drop k).head? = some (.sl (k + 7) 0 0 (rs.getD k []).length) := by
 rw [x1e3 (b := 0) (k := 0) h,Nat.add_comm]
theorem xpf {rs : List (List Int)} {b k : Nat} {r : List Int} (h : r.length = (rs.getD k []).length) : x3 b (rs.set k r) = x3 b rs := by
 apply x19g
 rw [List.map_set]
 by_cases hk : k < rs.length
 ·have : r.length = (rs.map List.length)[k]'(by simpa using hk) := by
   rw [h,List.getElem_map,List.getD_eq_getElem?_getD,List.getElem?_eq_getElem hk]; rfl
  rw [this,List.set_getElem_self]
 ·rw [List.set_eq_of_length_le (by simp; omega)]
theorem x203 {m : List Bool} {s : List A} {y1 y2 x0 x1 : D} {k z : Nat} {cs : List D} {d d2 : List (List Int)} (he : x3 7 d2 = x3 7 d) (hl : d2.length ≤ 4294967296) : gc 1 m s (.box [.d y1,.d y2] :: .box [.d x0,.sl 3 0 0 0,.sl 4 0 0 0] :: .box [.d x1,.sl 5 0 0 k,.sl 6 0 0 z] :: .arr [] 0 0 :: .arr [] 0 0 :: .vec (x3 7 d ++ x6 0) 1 0 :: .arr cs 1 0 :: x9 d2) = match box (tidy m s) with
  | .mk s1 => if idsL s1 = [1,2] ∧ z0As s1 = true then (x7 (xnh d2.length) s1,.box [.d y1,.d y2] :: .box [.d x0,.sl 3 0 0 0,.sl 4 0 0 0] :: .box [.d x1,.sl 5 0 0 k,.sl 6 0 0 z] :: .arr [] 0 0 :: .arr [] 0 0 :: .vec (x3 7 d ++ x6 0) 1 0 :: .arr cs 1 0 :: x9 d2) else gcO 1 m s (.box [.d y1,.d y2] :: .box [.d x0,.sl 3 0 0 0,.sl 4 0 0 0] :: .box [.d x1,.sl 5 0 0 k,.sl 6 0 0 z] :: .arr [] 0 0 :: .arr [] 0 0 :: .vec (x3 7 d ++ x6 0) 1 0 :: .arr cs 1 0 :: x9 d2)
  | .no => ([],[]) := by
 rw [← he]
 exact xsa hl
theorem x1d7 {R : Type} {L n : Nat} {y1 y2 x0 : D} {al st x : Int} {s : Nat} {nx : List (List Int)} (hx : st - 1 = x) (hst : st = s) (hs : s ≤ 100) (hnl : nx.length ≤ 4294967296) {k : Exit → List A → H → Option R} : ∀ (j i m : Nat) (bl : List Bool) (len : Nat) (hi : i + j = s) (hm : j < m) (hbl : bl.length = s) (hlen : len = bl.length),
  xg env (x2 env L n) L 1 [] (Z2 (U1 (Z2 (Z1 (U4 (Z32 (Z4 (Z2 (Z1 ([])))))))))) (x8d 0) (U2 (Z1 (U2 (U1 (Z2 (Z1 (U32 (U8 ([]))))))))) m (Y2 (.d (.int .i64 st) :: Y2 (Y1 (.ptr 1 0 0 :: .ptr 2 0 0 :: .d (.int .i64 ((i : Int))) :: Y32 (Y8 ([])))))) (.box [.d y1,.d y2] :: .box [.d x0,.sl 3 0 0 0,.sl 4 0 0 0] :: .box [.d (.int .i64 al),.sl 5 0 0 nx.length,.sl 6 0 0 len] :: .arr [] 0 0 :: .arr [] 0 0 :: .vec (x3 7 nx ++ x6 0) 1 0 :: .arr (xb bl) 1 0 :: x9 nx) k
  = k (.exit 0) (Y2 (.d (.int .i64 st) :: Y2 (Y1 (.ptr 1 0 0 :: .ptr 2 0 0 :: .d (.int .i64 ((s : Int))) :: Y32 (Y8 ([])))))) (.box [.d y1,.d y2] :: .box [.d x0,.sl 3 0 0 0,.sl 4 0 0 0] :: .box [.d (.int .i64 al),.sl 5 0 0 nx.length,.sl 6 0 0 s] :: .arr [] 0 0 :: .arr [] 0 0 :: .vec (x3 7 nx ++ x6 0) 1 0 :: .arr (xb (xkp x j i bl)) 1 0 :: x9 nx) := by
 intro j
 induction j with
 | zero =>
  intro i m bl len hi hm hbl hlen
  obtain _ | m := m; omega
  obtain rfl : i = s := by omega
  rw [hbl] at hlen
  subst hlen
  have hc1 : ¬ ((len : Int) < st) := by omega
  rw [xvi]
  simp only [xu0,Try.f137,SLM,simprocAttr]
  simp -implicitDefEqProofs (maxSteps := 2000000) (disch := first | assumption | exact ⟨by kernel_rfl⟩ | omega | (simp only [GT,LN] <;> omega) | fail) only [↓DN,↓kAsg,↓kRet,UP,simprocAttr,LA,hc1,↓xsa,z0As,z0A,eq_self,xg2,xg6,xkp]
 | succ j ih =>
  intro i m bl len hi hm hbl hlen
  obtain _ | m := m; omega
  subst hlen
  have hc1 : (i : Int) < st := by omega
  have hk : i < bl.length := by omega
  have hb1 : (0 : Int) ≤ i := by omega
  have ih' := ih (i + 1) m (bl.set i (decide ((i : Int) < x))) bl.length (by omega) (by omega) (by simpa using hbl) (by simp)
  rw [show ((i + 1 : Nat) : Int) = (i : Int) + 1 by omega] at ih'
  rw [xkp]
  clear ih
  rw [xvi]
  simp only [xu0,Try.f137,SLM,simprocAttr]
  simp -implicitDefEqProofs (maxSteps := 2000000) (disch := first | assumption | exact ⟨by kernel_rfl⟩ | omega | (simp only [GT,LN] <;> omega) | fail) only [↓DN,↓kAsg,↓kRet,UP,simprocAttr,LA,hc1,hx,xh0,xei,x1t0,↓xsa,z0As,z0A,eq_self,xg2,xg6,↓ih']
theorem x1cz {R : Type} {L n : Nat} {y1 y2 x0 : D} {al st i9 : Int} {s t : Nat} {bl : List Bool} {w : Nat} (hx : st - 1 = (t : Int)) (hs : s ≤ 100) (hw : w ≤ 100) (ht : t < s) {k : Exit → List A → H → Option R} : ∀ (j i m : Nat) (nx : List (List Int)) (len : Nat) (hi : i + j = w) (hm : j < m) (hr : (nx.getD t []).length = w) (hnx : nx.length = s) (hlen : len = nx.length),
  xg env (x2 env L n) L 1 [] (Z2 (U1 (Z2 (Z1 (U4 (Z32 (Z4 (Z2 (Z1 ([])))))))))) (x8d 1) (U2 (Z1 (U2 (U1 (Z4 (U32 (U4 (U2 (U1 ([])))))))))) m (Y2 (.d (.int .i64 st) :: Y2 (Y1 (.ptr 1 0 0 :: .ptr 2 0 0 :: .d (.int .i64 i9) :: .d (.int .i64 ((i : Int))) :: Y32 (Y4 (Y2 (Y1 ([])))))))) (.box [.d y1,.d y2] :: .box [.d x0,.sl 3 0 0 0,.sl 4 0 0 0] :: .box [.d (.int .i64 al),.sl 5 0 0 len,.sl 6 0 0 bl.length] :: .arr [] 0 0 :: .arr [] 0 0 :: .vec (x3 7 nx ++ x6 0) 1 0 :: .arr (xb bl) 1 0 :: x9 nx) k
  = k (.exit 2) (Y2 (.d (.int .i64 st) :: Y2 (Y1 (.ptr 1 0 0 :: .ptr 2 0 0 :: .d (.int .i64 i9) :: .d (.int .i64 ((w : Int))) :: Y32 (Y4 (Y2 (Y1 ([])))))))) (.box [.d y1,.d y2] :: .box [.d x0,.sl 3 0 0 0,.sl 4 0 0 0] :: .box [.d (.int .i64 al),.sl 5 0 0 s,.sl 6 0 0 bl.length] :: .arr [] 0 0 :: .arr [] 0 0 :: .vec (x3 7 nx ++ x6 0) 1 0 :: .arr (xb bl) 1 0 :: x9 (nx.set t (xmh t j i (nx.getD t [])))) := by
 intro j
 induction j with
 | zero =>
  intro i m nx len hi hm hr hnx hlen
  obtain _ | m := m; omega
  obtain rfl : i = w := by omega
  rw [hnx] at hlen
  subst hlen
  have hc1 : ¬ ((i : Int) < (i : Int)) := by omega
  have hnl : nx.length ≤ 4294967296 := by omega
  have hkd : t < nx.length := by omega
  have hg := x1ht hkd
  have e1 : nx.set t (nx.getD t []) = nx := by
   rw [List.getD_eq_getElem?_getD,List.getElem?_eq_getElem hkd]
   exact List.set_getElem_self hkd
  rw [xmh,e1]
  rw [xwb]
  simp only [xsf,Try.f137,SLM,simprocAttr]
  simp -implicitDefEqProofs (maxSteps := 2000000) (disch := first | assumption | exact ⟨by kernel_rfl⟩ | omega | (simp only [GT,LN] <;> omega) | fail) only [↓DN,↓kAsg,↓kRet,UP,simprocAttr,LA,hx,hr,hc1,x3l,x3p,xas,↓xsa,z0As,z0A,eq_self,xg2,xg6]
 | succ j ih =>
  intro i m nx len hi hm hr hnx hlen
  obtain _ | m := m; omega
  subst hlen
  have hnl : nx.length ≤ 4294967296 := by omega
  have hkd : t < nx.length := by omega
  have hg := x1ht hkd
  have hc1 : (i : Int) < (w : Int) := by omega
  have hk : i < (nx.getD t []).length := by omega
  have hb1 : (0 : Int) ≤ i := by omega
  have hgs : (nx.set t ((nx.getD t []).set i t)).getD t [] = (nx.getD t []).set i t := by
   rw [List.getD_eq_getElem?_getD,List.getElem?_set_self hkd]; rfl
  have hrs : x3 7 (nx.set t ((nx.getD t []).set i t)) = x3 7 nx := xpf (by simp)
  have ih' := ih (i + 1) m (nx.set t ((nx.getD t []).set i t)) nx.length (by omega) (by omega) (by rw [hgs]; simpa using hr) (by simpa using hnx) (by simp)
  rw [show ((i + 1 : Nat) : Int) = (i : Int) + 1 by omega,hgs,hrs,List.set_set] at ih'
  rw [xmh]
  have hnl2 : (nx.set t ((nx.getD t []).set i t)).length ≤ 4294967296 := by rw [List.length_set]; omega
  clear ih hgs
  generalize hro : nx.getD t [] = ro at *
  rw [xwb]
  simp only [xsf,Try.f137,SLM,simprocAttr]
  simp -implicitDefEqProofs (maxSteps := 2000000) (disch := first | assumption | exact ⟨by kernel_rfl⟩ | omega | (simp only [GT,LN] <;> omega) | fail) only [↓DN,↓kAsg,↓kRet,UP,simprocAttr,LA,hx,hr,hro,hg,hc1,x3l,x3p,xas,x1s4,x18a,↓x203,hrs,hnl2,z0As,z0A,eq_self,xg2,xg6,↓ih']
theorem x1aj {R : Type} {L n m : Nat} {y1 y2 x0 : D} {al st i9 : Int} {s t : Nat} {bl : List Bool} {w : Nat} {nx : List (List Int)} (hx : st - 1 = (t : Int)) (hs : s ≤ 100) (hw : w ≤ 100) (ht : t < s) (hm : w < m) (hr : (nx.getD t []).length = w) (hnx : nx.length = s) {k : Exit → List A → H → Option R} :
  xg env (x2 env L n) L 1 [] (Z2 (U1 (Z2 (Z1 (U4 (Z32 (Z4 (Z2 (Z1 ([])))))))))) (x8d 1) (U2 (Z1 (U2 (U1 (Z4 (U32 (U4 (U2 (U1 ([])))))))))) m (Y2 (.d (.int .i64 st) :: Y2 (Y1 (.ptr 1 0 0 :: .ptr 2 0 0 :: .d (.int .i64 i9) :: .d (.int .i64 0) :: Y32 (Y4 (Y2 (Y1 ([])))))))) (.box [.d y1,.d y2] :: .box [.d x0,.sl 3 0 0 0,.sl 4 0 0 0] :: .box [.d (.int .i64 al),.sl 5 0 0 s,.sl 6 0 0 bl.length] :: .arr [] 0 0 :: .arr [] 0 0 :: .vec (x3 7 nx ++ x6 0) 1 0 :: .arr (xb bl) 1 0 :: x9 nx) k
  = k (.exit 2) (Y2 (.d (.int .i64 st) :: Y2 (Y1 (.ptr 1 0 0 :: .ptr 2 0 0 :: .d (.int .i64 i9) :: .d (.int .i64 ((w : Int))) :: Y32 (Y4 (Y2 (Y1 ([])))))))) (.box [.d y1,.d y2] :: .box [.d x0,.sl 3 0 0 0,.sl 4 0 0 0] :: .box [.d (.int .i64 al),.sl 5 0 0 s,.sl 6 0 0 bl.length] :: .arr [] 0 0 :: .arr [] 0 0 :: .vec (x3 7 (nx.set t (xmh t w 0 (nx.getD t []))) ++ x6 0) 1 0 :: .arr (xb bl) 1 0 :: x9 (nx.set t (xmh t w 0 (nx.getD t [])))) := by
 rw [xpf (by rw [x127])]
 exact x1cz hx hs hw ht w 0 m nx s (by omega) hm hr hnx hnx.symm
theorem xkq {d : List (List Int)} {o o1 o2 : O} {p : H} {k : Nat} (h : k = d.length + 2) : (x9 d ++ o1 :: o2 :: o :: p)[k]? = some o := by
 subst h
 rw [List.getElem?_append_right (by rw [x30]; omega),x30,Nat.add_sub_cancel_left]
 rfl
theorem xt0 {d : List (List Int)} {o o1 o2 q : O} {p : H} {k : Nat} (h : k = d.length + 2) : (x9 d ++ o1 :: o2 :: o :: p).set k q = x9 d ++ o1 :: o2 :: q :: p := by
 rw [List.set_append_right _ _ (by rw [x30]; omega),x30,h,Nat.add_sub_cancel_left]
 rfl
theorem xq1 {d : List (List Int)} {o o1 o2 x : O} {p : H} {k : Nat} (h : k = d.length + 2) : (x9 d ++ o1 :: o2 :: o :: p).getD k x = o := by
 rw [List.getD_eq_getElem?_getD,xkq h]; rfl
theorem x1le {c : List UInt8} (hc : c.length ≤ 2000) (al st : Int) {s : Nat} (hst : st = s) (hs : s ≤ 100) (h1 : 1 ≤ s) (p : Int) (hp : 0 ≤ p) (hp2 : p + 7 * s ≤ 1000000000) :
  ∃ (nx : List (List Int)) (ac : List Bool) (q : Int),nx.length = s ∧ ac.length = s ∧ (∀ r ∈ nx,r.length = (x8 al).length) ∧ p ≤ q ∧ q ≤ p + 7 * s ∧ ∀ (L n : Nat),4 ≤ n → 2 ^ 60 ≤ L →
  x2 env L n 137 [.ptr 0 0 0,.d (.int .i64 al),.d (.int .i64 st)] [rdO c p] = some (autD al nx ac,[rdO c q]) := by
 obtain ⟨nx,ac,q,g1,g2,g3,g4,g5,he⟩ := x10t hc al st hst hs h1 p hp hp2
 obtain ⟨t,rfl⟩ : ∃ t,s = t + 1 := ⟨s - 1,by omega⟩
 have hx : st - 1 = (t : Int) := by omega
 have hw := x4j al
 have hk : t < nx.length := by omega
 have hr : (nx.getD t []).length = (x8 al).length := by
  rw [List.getD_eq_getElem?_getD,List.getElem?_eq_getElem hk]
  exact g3 _ (List.getElem_mem hk)
 have hl1 : (nx.set t (xmh t (x8 al).length 0 (nx.getD t []))).length = t + 1 := by rw [List.length_set,g1]
 have hl2 : (xkp (t : Int) (t + 1) 0 ac).length = t + 1 := by rw [x1g2,g2]
 refine ⟨nx.set t (xmh t (x8 al).length 0 (nx.getD t [])),xkp (t : Int) (t + 1) 0 ac,q,hl1,hl2,?_,g4,g5,fun L n hn hL => ?_⟩
 ·intro r hrm
  rcases List.mem_or_eq_of_mem_set hrm with h | h
  ·exact g3 r h
  ·rw [h,x127,hr]
 have kd := fun {R : Type} {n : Nat} {hq : H} {k : A → H → Option R} (hn : 3 ≤ n) => x16e (R := R) (L := L) (n := n) (hq := hq) (k := k) hn hL he
 have hnl : nx.length ≤ 4294967296 := by omega
 have loop_a := fun {R : Type} {n : Nat} {y1 y2 x0 : D} {k : Exit → List A → H → Option R} => x1d7 (R := R) (L := L) (n := n) (y1 := y1) (y2 := y2) (x0 := x0) (al := al) (nx := nx) (k := k) hx hst hs hnl (t + 1) 0 L ac ac.length (by omega) (by omega) g2 rfl
 have loop_b := fun {R : Type} {n : Nat} {y1 y2 x0 : D} {i9 : Int} {k : Exit → List A → H → Option R} => x1aj (R := R) (L := L) (n := n) (m := L) (y1 := y1) (y2 := y2) (x0 := x0) (al := al) (i9 := i9) (bl := xkp (t : Int) (t + 1) 0 ac) (k := k) hx hs (by omega) (by omega) (by omega) hr g1
 rw [hl2] at loop_b
 rw [g1,g2] at loop_a
 simp only [autA,autO,g1,g2] at kd
 simp only [Int.natCast_zero] at loop_a
 have hbl : (xb (xkp (t : Int) (t + 1) 0 ac)).length = t + 1 := by rw [x4f,hl2]
 generalize nx.set t (xmh t (x8 al).length 0 (nx.getD t [])) = nx2 at *
 generalize xkp (t : Int) (t + 1) 0 ac = ac2 at *
 have hnl2 : nx2.length ≤ 4294967296 := by omega
 have hH : Has (rdO c q :: .box [.d (.int .i64 al),.sl 5 0 0 (t + 1),.sl 6 0 0 (t + 1)] :: .box [.d (.int .i64 al),.sl 5 0 0 (t + 1),.sl 6 0 0 (t + 1)] :: .arr [] 0 0 :: .arr [] 0 0 :: .vec (x3 7 nx2 ++ x6 0) 1 0 :: .arr (xb ac2) 1 0 :: x9 nx2) 5 nx2 ac2 := by
  have := x14x (h := [rdO c q,.box [.d (.int .i64 al),.sl 5 0 0 (t + 1),.sl 6 0 0 (t + 1)],.box [.d (.int .i64 al),.sl 5 0 0 (t + 1),.sl 6 0 0 (t + 1)],.arr [] 0 0,.arr [] 0 0]) (v := 5) (rs := nx2) (ac := ac2) (p := []) rfl
  simpa using this
 obtain ⟨h2,st_out,st_keep,st_trim⟩ := x152 (n := t + 1) (m := t + 1) (al := al) hH (by omega) hl1.symm hl2.symm
 simp only [autD] at st_out ⊢
 clear he g3 g4 g5 hH
 obtain _ | n := n; omega
 rw [x1lz]
 simp only [x1a4,Try.f137,SLM,simprocAttr]
 simp -implicitDefEqProofs (maxSteps := 2000000) (disch := first | assumption | exact ⟨by kernel_rfl⟩ | omega | (simp only [GT,LN] <;> omega) | fail) only [↓DN,↓kAsg,↓kRet,UP,simprocAttr,LA,hbl,g1,↓kd,↓loop_a,↓loop_b,x30,List.append_assoc,List.cons_append,List.nil_append,xkq,xt0,xq1,↓x20o,x1oe,x1f6,x19p,↓xsa,xg2,xg6,↓st_out,↓st_keep,↓st_trim,z0As,z0A,eq_self]
theorem x1wd : (env.hint 137).mode = 0 := by kernel_rfl
theorem x1k0 : (env.hint 107).mode = 0 := by kernel_rfl
theorem x1p9 {c : List UInt8} (hc : c.length ≤ 2000) (al : Int) (p : Int) (hp : 0 ≤ p) (hp2 : p ≤ 900000000) :
  ∃ (nx : List (List Int)) (ac : List Bool) (q : Int),1 ≤ nx.length ∧ nx.length ≤ 5 ∧ ac.length = nx.length ∧ (∀ r ∈ nx,r.length = (x8 al).length) ∧ p ≤ q ∧ q ≤ p + 50 ∧ (Dw 6 107 [.d (.int .i64 al)] (autD al nx ac) c p q) := by
 obtain ⟨v,v0,v1,_,kd1⟩ := x6s hc p 2 hp (by omega)
 by_cases h1 : v = 0
 ·subst h1
  obtain ⟨w,hw,kd2⟩ := xup hc [3,2,4,1] (by simp) (by simp) (p + 1) (by omega) (by omega)
  have hw1 : 1 ≤ w ∧ w ≤ 4 := by simp at hw; omega
  obtain ⟨nx,ac,q,g1,g2,g3,g4,g5,he⟩ := x1le hc al w (s := w.toNat) (by omega) (by omega) (by omega) (p + 1 + 1) (by omega) (by omega)
  have kd3 := fun {R : Type} {L n : Nat} {hq : H} {k : A → H → Option R} (hn : 4 ≤ n) (hL : 2 ^ 60 ≤ L) => x3n (R := R) (h := hq) (k := k) x1wd (by simp [idsL,idsA]) (by simp [autD,idsA,idsL]) (he L n hn hL)
  simp only [ints,List.map_cons,List.map_nil,List.length_cons,List.length_nil,Nat.zero_add,Nat.reduceAdd] at kd2
  refine ⟨nx,ac,q,by omega,by omega,by omega,g3,by omega,by omega,fun R L n hq k hn hL => x3n x1k0 (by simp [idsL,idsA]) (by simp [autD,idsA,idsL]) ?_⟩
  unfold autD at kd3 ⊢
  clear he g3
  obtain _ | n := n; omega
  rw [x15v]
  simp only [xzg,Try.f107,SLM,simprocAttr]
  simp -implicitDefEqProofs (maxSteps := 2000000) (disch := first | assumption | exact ⟨by kernel_rfl⟩ | omega | (simp only [GT,LN] <;> omega) | fail) only [↓DN,↓kAsg,↓kRet,UP,simprocAttr,LA,↓kd1,↓kd2,↓kd3]
 ·obtain ⟨w,hw,kd2⟩ := xup hc [2,3,1,4,5] (by simp) (by simp) (p + 1) (by omega) (by omega)
  have hw1 : 1 ≤ w ∧ w ≤ 5 := by simp at hw; omega
  obtain ⟨nx,ac,q,g1,g2,g3,g4,g5,he⟩ := x10t hc al w (s := w.toNat) (by omega) (by omega) (by omega) (p + 1 + 1) (by omega) (by omega)
  have kd3 := fun {R : Type} {L n : Nat} {hq : H} {k : A → H → Option R} (hn : 3 ≤ n) (hL : 2 ^ 60 ≤ L) => x16e (R := R) (L := L) (n := n) (hq := hq) (k := k) hn hL he
  simp only [ints,List.map_cons,List.map_nil,List.length_cons,List.length_nil,Nat.zero_add,Nat.reduceAdd] at kd2
  simp only [autA,autO] at kd3
  refine ⟨nx,ac,q,by omega,by omega,by omega,g3,by omega,by omega,fun R L n hq k hn hL => x3n x1k0 (by simp [idsL,idsA]) (by simp [autD,idsA,idsL]) ?_⟩
  have hH : Has (rdO c q :: .arr [] 0 0 :: .arr [] 0 0 :: .box [.d (.int .i64 al),.sl 5 0 0 nx.length,.sl 6 0 0 ac.length] :: .arr [.int .i64 2,.int .i64 3,.int .i64 1,.int .i64 4,.int .i64 5] 1 0 :: .vec (x3 7 nx ++ x6 0) 1 0 :: .arr (xb ac) 1 0 :: x9 nx) 5 nx ac := by
   have := x14x (h := [rdO c q,.arr [] 0 0,.arr [] 0 0,.box [.d (.int .i64 al),.sl 5 0 0 nx.length,.sl 6 0 0 ac.length],.arr [.int .i64 2,.int .i64 3,.int .i64 1,.int .i64 4,.int .i64 5] 1 0]) (v := 5) (rs := nx) (ac := ac) (p := []) rfl
   simpa using this
  obtain ⟨h2,st_out,st_keep,st_trim⟩ := x152 (n := nx.length) (m := ac.length) (al := al) hH (by omega) rfl rfl
  unfold autD at st_out ⊢
  clear he g3 hH
  obtain _ | n := n; omega
  rw [x15v]
  simp only [xzg,Try.f107,SLM,simprocAttr]
  simp -implicitDefEqProofs (maxSteps := 2000000) (disch := first | assumption | exact ⟨by kernel_rfl⟩ | omega | (simp only [GT,LN] <;> omega) | fail) only [↓DN,↓kAsg,↓kRet,UP,simprocAttr,LA,h1,↓kd1,↓kd2,↓kd3,↓st_out,↓st_keep,↓st_trim]
def x1al : Nat → List D → Bool
 | 0,[] => true
 | n + 1,.int .i64 _ :: ds => x1al n ds
 | _,_ => false
def x19t (w : Nat) : Nat → List D → Bool
 | 0,[] => true
 | n + 1,.ivs k cs :: ds => x1al k cs && (k == w) && x19t w n ds
 | _,_ => false
def x12u : Nat → List D → Bool
 | 0,[] => true
 | n + 1,.bool _ :: ds => x12u n ds
 | _,_ => false
def x7p : Option (A × H) → Bool
 | some (.tup [.agg [.d (.int .i64 al),.d (.ivs n rs),.d (.ivs m bs)],.d (.bool true)],[]) => x19t (x8 al).length n rs && x12u m bs && (m == n) && decide (1 ≤ n ∧ n ≤ 12)
 | _ => false
def xla : List (List UInt8) := [[97,98,32,43,49,44,48,32,45,49,44,49],[97,98,32,43,48,44,49,32,43,50,44,49,32,45,50,44,50],[97,99,32,43,49,44,50,32,43,49,44,50,32,45,50,44,50],[98,32,43,49,32,45,49],[97,98,99,32,43,49,44,48,44,50,32,43,50,44,48,44,49,32,45,50,44,50,44,50],[45,32,43],[45,32,45],[97,32,43,49,32,45,48],[97,98,32,43,48,44,49,32,45,48,44,49],[98,99,32,43,49,44,50,32,43,50,44,48,32,45,50,44,50],[97,98,32,43,49,44,50,32,45,49,44,51,32,43,52,44,50,32,45,49,44,51,32,43,52,44,50],[97,98,99,32,43,48,44,49,44,48,32,43,48,44,49,44,50,32,45,50,44,50,44,50]]
theorem x1w3 : x7p (x2 env 3000 12 104 [.d (.str [97,98,32,43,49,44,50,32,45,49,44,51,32,43,52,44,50,32,45,49,44,51,32,43,52,44,50])] []) = true := by kernel_rfl
theorem x1zp : x7p (x2 env 3000 12 104 [.d (.str [45,32,45])] []) = true := by kernel_rfl
theorem x20f : x7p (x2 env 3000 12 104 [.d (.str [97,98,99,32,43,49,44,48,44,50,32,43,50,44,48,44,49,32,45,50,44,50,44,50])] []) = true := by kernel_rfl
theorem x206 : x7p (x2 env 3000 12 104 [.d (.str [45,32,43])] []) = true := by kernel_rfl
theorem x1vc : x7p (x2 env 3000 12 104 [.d (.str [97,98,99,32,43,48,44,49,44,48,32,43,48,44,49,44,50,32,45,50,44,50,44,50])] []) = true := by kernel_rfl
theorem x207 : x7p (x2 env 3000 12 104 [.d (.str [97,32,43,49,32,45,48])] []) = true := by kernel_rfl
theorem x204 : x7p (x2 env 3000 12 104 [.d (.str [97,98,32,43,48,44,49,32,43,50,44,49,32,45,50,44,50])] []) = true := by kernel_rfl
theorem x20j : x7p (x2 env 3000 12 104 [.d (.str [98,32,43,49,32,45,49])] []) = true := by kernel_rfl
theorem x1zu : x7p (x2 env 3000 12 104 [.d (.str [97,99,32,43,49,44,50,32,43,49,44,50,32,45,50,44,50])] []) = true := by kernel_rfl
theorem x20p : x7p (x2 env 3000 12 104 [.d (.str [97,98,32,43,48,44,49,32,45,48,44,49])] []) = true := by kernel_rfl
theorem x209 : x7p (x2 env 3000 12 104 [.d (.str [98,99,32,43,49,44,50,32,43,50,44,48,32,45,50,44,50])] []) = true := by kernel_rfl
theorem x216 : x7p (x2 env 3000 12 104 [.d (.str [97,98,32,43,49,44,48,32,45,49,44,49])] []) = true := by kernel_rfl
theorem x1t4 : ∀ t ∈ xla,x7p (x2 env 3000 12 104 [.d (.str t)] []) = true := by
 intro t ht
 simp only [xla,List.mem_cons,List.not_mem_nil,or_false] at ht
 rcases ht with rfl | rfl | rfl | rfl | rfl | rfl | rfl | rfl | rfl | rfl | rfl | rfl
 ·exact x216
 ·exact x204
 ·exact x1zu
 ·exact x20j
 ·exact x20f
 ·exact x206
 ·exact x1zp
 ·exact x207
 ·exact x20p
 ·exact x209
 ·exact x1w3
 ·exact x1vc
section
def More (c1 c2 : xq) : Prop := ∀ f args h r,c1 f args h = some r → c2 f args h = some r
section
variable {E : Env} {c1 c2 : xq} (hc : More c1 c2)
include hc
theorem x19l {hint : FuncId → Hint} {h : H} {f : FuncId} {args : List A} {r : A × H} (he : x36 c1 hint h f args = some r) : x36 c2 hint h f args = some r := by
 unfold x36 at he ⊢
 generalize (hint f).mode = m at *
 have key : ∀ (fs : List A) (g : Option (A × H) → Option (A × H)),g none = none → g (c1 f fs []) = some r → g (c2 f fs []) = some r := by
  intro fs g h0 h1
  cases h2 : c1 f fs [] with
  | none => rw [h2,h0] at h1; cases h1
  | some q => rw [h2] at h1; rw [hc _ _ _ _ h2]; exact h1
 match m with
 | 0 => exact hc _ _ _ _ he
 | 1 =>
  simp only at he ⊢
  cases hf : x6e h args with
  | none => rw [hf] at he; cases he
  | some q => rw [hf] at he; exact key q.1 (fun o => match o with | some (r,[]) => if x9h r then some (r,h) else none | _ => none) rfl he
 | 3 =>
  simp only at he ⊢
  cases hf : x6e h args with
  | none => rw [hf] at he; cases he
  | some q => rw [hf] at he; exact key q.1 (fun o => match o with | some (r,h2) => if xc5 r && h2.all x9i then some (mapA (back [] h.length h2.length) r,h ++ h2.map (mapO (back [] h.length h2.length))) else none | none => none) rfl he
 | 2 =>
  simp only at he ⊢
  cases hf : x6e h args with
  | none => rw [hf] at he; cases he
  | some q => rw [hf] at he; exact key q.1 (fun o => match o with | some (r,[]) => some (r,q.2) | some (r,h2) => some (mapA (back [] q.2.length h2.length) r,q.2 ++ h2.map (mapO (back [] q.2.length h2.length))) | none => none) rfl he
 | m + 4 =>
  simp only at he ⊢
  cases hf : x6e h args with
  | none => rw [hf] at he; cases he
  | some q => rw [hf] at he; exact key q.1 (fun o => match o with | some (r,[]) => some (r,q.2) | some (r,h2) => some (mapA (back [] q.2.length h2.length) r,q.2 ++ h2.map (mapO (back [] q.2.length h2.length))) | none => none) rfl he
theorem x1ix {hint : FuncId → Hint} {h : H} {c : A} {args : List A} {r : A × H} (he : x6z c1 hint h c args = some r) : x6z c2 hint h c args = some r := by
 unfold x6z at he ⊢
 split at he
 ·exact x19l hc he
 ·exact x19l hc he
 ·cases he
theorem x1gs {h : H} {c : Callee} {tys : List TypeId} {vs : List A} {r : A × H} (he : x49 E c1 h c tys vs = some r) : x49 E c2 h c tys vs = some r := by
 unfold x49 at he ⊢
 split at he
 ·split at he
  ·exact x1ix hc he
  ·cases he
 ·exact he
 ·cases he
theorem xuw {thaw : List Nat} {h : H} {o : Oper} {vs : List A} {r : A × H} (he : evOp E c1 thaw h o vs = some r) : evOp E c2 thaw h o vs = some r := by
 unfold evOp at he ⊢
 split at he <;> first | exact x1gs hc he | exact he
theorem x1bc {thaw : List Nat} {h : H} {o : Oper} {vs : List A} {r : A × H × List Nat × Nat} (he : x8g E c1 thaw h o vs = some r) : x8g E c2 thaw h o vs = some r := by
 unfold x8g at he ⊢
 simp only at he ⊢
 split at he
 ·rename_i a h1 h2
  rw [xuw hc h2]
  exact he
 ·cases he
theorem x1kw {thaw : List Nat} {ops : List Oper} {o : Oper} {s : List A} {h : H} {r : List A × H} (he : xp1 E c1 thaw ops o s h = some r) : xp1 E c2 thaw ops o s h = some r := by
 unfold xp1 at he ⊢
 cases hw : xff ops s o with
 | none => rw [hw] at he; cases he
 | some b =>
  rw [hw] at he
  cases b with
  | false => exact he
  | true =>
   simp only at he ⊢
   cases hv : x1n s (opds o.op) with
   | none => rw [hv] at he; cases he
   | some vs =>
    rw [hv] at he
    simp only at he ⊢
    by_cases hi : x1j o.op = true
    ·rw [if_pos hi] at he ⊢
     cases hf : x8g E c1 thaw h o vs with
     | none => rw [hf] at he; cases he
     | some q => rw [hf] at he; rw [x1bc hc hf]; exact he
    ·rw [if_neg hi] at he ⊢
     cases hf : evOp E c1 thaw h o vs with
     | none => rw [hf] at he; cases he
     | some q => rw [hf] at he; rw [xuw hc hf]; exact he
theorem x1ac {thaw : List Nat} {ops : List Oper} : ∀ {os : List Oper} {s : List A} {h : H} {r : List A × H},xj5 E c1 thaw ops os s h = some r → xj5 E c2 thaw ops os s h = some r
 | [],s,h,r,he => he
 | o :: os,s,h,r,he => by
  unfold xj5 at he ⊢
  cases hs : xp1 E c1 thaw ops o s h with
  | none => rw [hs] at he; cases he
  | some q => rw [hs] at he; rw [x1kw hc hs]; exact x1ac he
theorem x1kl {thaw : List Nat} {ops : List Oper} {o : Oper} {s : List A} {h : H} {r : List A × H × Foot} (he : xjx E c1 thaw ops o s h = some r) : xjx E c2 thaw ops o s h = some r := by
 unfold xjx at he ⊢
 cases hw : xff ops s o with
 | none => rw [hw] at he; cases he
 | some b =>
  rw [hw] at he
  cases b with
  | false => exact he
  | true =>
   simp only at he ⊢
   cases hv : x1n s (opds o.op) with
   | none => rw [hv] at he; cases he
   | some vs =>
    rw [hv] at he
    simp only at he ⊢
    by_cases hi : x27 o.op = true
    ·rw [if_pos hi] at he ⊢
     cases hf : evOp E c1 thaw h o vs with
     | none => rw [hf] at he; cases he
     | some q => rw [hf] at he; rw [xuw hc hf]; exact he
    ·rw [if_neg hi] at he ⊢
     by_cases hj : xad o.op = true
     ·rw [if_pos hj] at he ⊢
      cases hf : evOp E c1 thaw h o vs with
      | none => rw [hf] at he; cases he
      | some q => rw [hf] at he; rw [xuw hc hf]; exact he
     rw [if_neg hj] at he ⊢
     cases hf : x8g E c1 thaw h o vs with
     | none => rw [hf] at he; cases he
     | some q => rw [hf] at he; rw [x1bc hc hf]; exact he
theorem x16z {thaw : List Nat} {ops : List Oper} : ∀ {os : List Oper} {s : List A} {h : H} {r : List A × H × List Foot},xap E c1 thaw ops os s h = some r → xap E c2 thaw ops os s h = some r
 | [],s,h,r,he => he
 | o :: os,s,h,r,he => by
  unfold xap at he ⊢
  cases hs : xjx E c1 thaw ops o s h with
  | none => rw [hs] at he; cases he
  | some q =>
   rw [hs] at he
   rw [x1kl hc hs]
   simp only at he ⊢
   cases h2 : xap E c1 thaw ops os q.1 q.2.1 with
   | none => rw [h2] at he; cases he
   | some z => rw [h2] at he; rw [x16z h2]; exact he
theorem x1hd {thaw : List Nat} {ops : Array Oper} {draw : Bool} {s : List A} {h : H} {r : List A × H} (he : xbk E c1 thaw ops draw s h = some r) : xbk E c2 thaw ops draw s h = some r := by
 unfold xbk at he ⊢
 by_cases hd : draw = true
 ·rw [if_pos hd] at he ⊢
  cases ho : xap E c1 thaw ops.toList ops.toList s h with
  | none => rw [ho] at he; cases he
  | some q => rw [ho] at he; rw [x16z hc ho]; exact he
 ·rw [if_neg hd] at he ⊢
  exact x1ac hc he
end
theorem x175 {b1 b2 : List A → H → Option (Exit × List A × H)} (hb : ∀ s h r,b1 s h = some r → b2 s h = some r) {nf : Nat} {m : List Bool} : ∀ {n1 n2 : Nat} {s : List A} {h : H} {r : Exit × List A × H},n1 ≤ n2 → xgj b1 nf m n1 s h = some r → xgj b2 nf m n2 s h = some r
 | 0,n2,s,h,r,_,he => by simp [xgj] at he
 | n1 + 1,0,s,h,r,hn,he => by omega
 | n1 + 1,n2 + 1,s,h,r,hn,he => by
  unfold xgj at he ⊢
  cases hs : b1 s h with
  | none => rw [hs] at he; cases he
  | some q =>
   rw [hs] at he
   rw [hb _ _ _ hs]
   obtain ⟨e,s1,h1⟩ := q
   cases e with
   | normal => exact x175 hb (by omega) he
   | _ => exact he
theorem x1lo {E : Env} {c1 c2 : xq} (hc : More c1 c2) {L1 L2 nf : Nat} (hL : L1 ≤ L2) {thaw : List Nat} {live : List Bool} : ∀ (c : Code) {s : List A} {h : H} {r : Exit × List A × H},x2t E c1 L1 nf thaw live c s h = some r → x2t E c2 L2 nf thaw live c s h = some r := by
 intro c
 induction c with
 | region i ops draw =>
  intro s h r he
  unfold x2t at he ⊢
  cases hr : xbk E c1 thaw ops draw s h with
  | none => rw [hr] at he; cases he
  | some q => rw [hr] at he; rw [x1hd hc hr]; exact he
 | seq a b iha ihb =>
  intro s h r he
  unfold x2t at he ⊢
  cases ha : x2t E c1 L1 nf thaw live a s h with
  | none => rw [ha] at he; cases he
  | some q =>
   rw [ha] at he
   rw [iha ha]
   obtain ⟨e,s1,h1⟩ := q
   cases e with
   | normal => exact ihb he
   | _ => exact he
 | cond x a b iha ihb =>
  intro s h r he
  unfold x2t at he ⊢
  cases hv : x34 s x with
  | none => rw [hv] at he; cases he
  | some v =>
   rw [hv] at he
   cases v with
   | d y =>
    cases y with
    | bool b =>
     cases b with
     | true => exact iha he
     | false => exact ihb he
    | _ => cases he
   | _ => cases he
 | block i a iha =>
  intro s h r he
  unfold x2t at he ⊢
  cases ha : x2t E c1 L1 nf thaw live a s h with
  | none => rw [ha] at he; cases he
  | some q => rw [ha] at he; rw [iha ha]; exact he
 | loop a iha =>
  intro s h r he
  unfold x2t at he ⊢
  exact x175 (fun s h r => iha) hL he
 | _ => intro s h r he; simp only [x2t] at he ⊢; first | exact he | cases he
theorem x1ky {E : Env} {c1 c2 : xq} (hc : More c1 c2) {L1 L2 : Nat} (hL : L1 ≤ L2) {f : FuncId} {fn : Func} {c : Code} {args : List A} {h : H} {r : A × H} (he : xt9 E c1 L1 f fn c args h = some r) : xt9 E c2 L2 f fn c args h = some r := by
 unfold xt9 at he ⊢
 split at he
 ·rename_i e s h1 hcd
  rw [x1lo hc hL c hcd]
  exact he
 ·cases he
theorem x179 {E : Env} {L1 L2 : Nat} (hL : L1 ≤ L2) : ∀ {n1 n2 : Nat},n1 ≤ n2 → More (x2 E L1 n1) (x2 E L2 n2)
 | 0,n2,_ => by intro f args h r he; simp [x2] at he
 | n1 + 1,0,hn => by omega
 | n1 + 1,n2 + 1,hn => by
  intro f args h r he
  have ih := x179 (E := E) hL (n1 := n1) (n2 := n2) (by omega)
  unfold x2 at he ⊢
  cases hp : E.prim f with
  | some g => rw [hp] at he; exact he
  | none =>
   rw [hp] at he
   simp only at he ⊢
   cases hf : E.P.funcs[f]? with
   | none => rw [hf] at he; cases he
   | some fn =>
    rw [hf] at he
    simp only at he ⊢
    cases hb : fn.body with
    | none => rw [hb] at he; cases he
    | some c =>
     rw [hb] at he
     simp only at he ⊢
     by_cases hnm : (fn.name == "runtime.NumGoroutine") = true
     ·rw [if_pos hnm] at he; cases he
     ·rw [if_neg hnm] at he ⊢
      exact x1ky ih hL he
end
theorem x19s : ∀ (n : Nat) (cs : List D),x1al n cs = true → ∃ l : List Int,l.length = n ∧ cs = ints l
 | 0,[],_ => ⟨[],rfl,rfl⟩
 | 0,_ :: _,h => by simp [x1al] at h
 | n + 1,cs,h => by
  unfold x1al at h
  split at h
  ·exfalso; omega
  ·rename_i m a ds heq
   cases heq
   obtain ⟨l,h1,h2⟩ := x19s n _ h
   exact ⟨a :: l,by simp [h1],by rw [h2]; rfl⟩
  ·cases h
theorem x147 : ∀ (n : Nat) (cs : List D),x12u n cs = true → ∃ l : List Bool,l.length = n ∧ cs = xb l
 | 0,[],_ => ⟨[],rfl,rfl⟩
 | 0,_ :: _,h => by simp [x12u] at h
 | n + 1,cs,h => by
  unfold x12u at h
  split at h
  ·exfalso; omega
  ·rename_i m a ds heq
   cases heq
   obtain ⟨l,h1,h2⟩ := x147 n _ h
   exact ⟨a :: l,by simp [h1],by rw [h2]; rfl⟩
  ·cases h
theorem x195 (w : Nat) : ∀ (n : Nat) (cs : List D),x19t w n cs = true → ∃ l : List (List Int),l.length = n ∧ (∀ r ∈ l,r.length = w) ∧ cs = xc l
 | 0,[],_ => ⟨[],rfl,by simp,rfl⟩
 | 0,_ :: _,h => by simp [x19t] at h
 | n + 1,cs,h => by
  unfold x19t at h
  split at h
  ·exfalso; omega
  ·rename_i m k rs ds heq
   cases heq
   simp only [Bool.and_eq_true,beq_iff_eq] at h
   obtain ⟨r,h3,h4⟩ := x19s k _ h.1.1
   obtain ⟨l,h1,h2,h5⟩ := x195 w n _ h.2
   refine ⟨r :: l,by simp [h1],?_,?_⟩
   ·intro x hx
    rcases List.mem_cons.1 hx with rfl | hx
    ·rw [h3,h.1.2]
    ·exact h2 x hx
   ·rw [h5,h4,← h3]
    rfl
  ·cases h
theorem x1tp {r : Option (A × H)} (h : x7p r = true) : ∃ (al : Int) (nx : List (List Int)) (ac : List Bool),1 ≤ nx.length ∧ nx.length ≤ 12 ∧ ac.length = nx.length ∧ (∀ r ∈ nx,r.length = (x8 al).length) ∧ r = some (.tup [autD al nx ac,.d (.bool true)],[]) := by
 unfold x7p at h
 split at h
 ·rename_i al n rs m bs
  simp only [Bool.and_eq_true,decide_eq_true_eq,beq_iff_eq] at h
  obtain ⟨⟨⟨h1,h2⟩,h3⟩,h4,h5⟩ := h
  obtain ⟨l,g1,g2,g3⟩ := x195 _ _ _ h1
  obtain ⟨b,g4,g5⟩ := x147 _ _ h2
  subst g3; subst g5
  refine ⟨al,l,b,by omega,by omega,by omega,g2,?_⟩
  unfold autD
  rw [g1,g4]
 ·cases h
theorem x15n {t : List UInt8} (ht : t ∈ xla) : ∃ (al : Int) (nx : List (List Int)) (ac : List Bool),1 ≤ nx.length ∧ nx.length ≤ 12 ∧ ac.length = nx.length ∧ (∀ r ∈ nx,r.length = (x8 al).length) ∧ ∀ (L n : Nat),12 ≤ n → 2 ^ 60 ≤ L → x2 env L n 104 [.d (.str t)] [] = some (.tup [autD al nx ac,.d (.bool true)],[]) := by
 obtain ⟨al,nx,ac,h1,h2,h3,h4,h5⟩ := x1tp (x1t4 t ht)
 exact ⟨al,nx,ac,h1,h2,h3,h4,fun L n hn hL => x179 (by omega) hn _ _ _ _ h5⟩
theorem x1id : (env.hint 77).mode = 0 := by kernel_rfl
theorem x1k7 {L n : Nat} (hn : 1 ≤ n) : x2 env L n 106 [] [] = some (.d (.ivs 12 (x15 xla)),[]) := by
 obtain _ | n := n; omega
 kernel_rfl
theorem x148 {R : Type} {L n : Nat} {hq : H} {k : A → H → Option R} (hn : 1 ≤ n) : xe env (x2 env L n) hq 106 [] k = k (.d (.ivs 12 (x15 xla))) hq :=
 xr rfl (x1k7 hn) rfl (.inr rfl)
theorem x1q1 {c : List UInt8} (hc : c.length ≤ 2000) (p : Int) (hp : 0 ≤ p) (hp2 : p ≤ 800000000) :
  ∃ (al : Int) (nx : List (List Int)) (ac : List Bool) (q : Int),1 ≤ nx.length ∧ nx.length ≤ 12 ∧ ac.length = nx.length ∧ (∀ r ∈ nx,r.length = (x8 al).length) ∧ p ≤ q ∧ q ≤ p + 60 ∧ (Dw 14 77 [] (autD al nx ac) c p q) := by
 obtain ⟨v,v0,v1,_,kd1⟩ := x6s hc p 3 hp (by omega)
 by_cases hv : v = 0
 ·subst hv
  obtain ⟨t,ht,kd2⟩ := x220 hc xla (by simp [xla]) (by simp [xla]) (p + 1) (by omega) (by omega)
  have e11 : xla.length = 12 := rfl
  rw [e11] at kd2
  obtain ⟨al,nx,ac,g1,g2,g3,g4,he⟩ := x15n ht
  have kc_p : ∀ {R : Type} {L n : Nat} {hq : H} {k : A → H → Option R},12 ≤ n → 2 ^ 60 ≤ L → xe env (x2 env L n) hq 104 [.d (.str t)] k = k (.tup [autD al nx ac,.d (.bool true)]) hq := fun hn hL => xr rfl (he _ _ hn hL) rfl (.inr rfl)
  refine ⟨al,nx,ac,p + 1 + 1,g1,g2,g3,g4,by omega,by omega,fun R L n hq k hn hL => x3n x1id rfl (by simp [autD,idsA,idsL]) ?_⟩
  unfold autD at kc_p ⊢
  clear he g4
  obtain _ | n := n; omega
  rw [x16j]
  simp only [xzq,Try.f77,SLM,simprocAttr]
  simp -implicitDefEqProofs (maxSteps := 2000000) (disch := first | assumption | exact ⟨by kernel_rfl⟩ | omega | (simp only [GT,LN] <;> omega) | fail) only [↓DN,↓kAsg,↓kRet,UP,simprocAttr,↓x148,LA,↓kd1,↓kd2,↓kc_p]
 ·obtain ⟨al,_,kd2⟩ := xup hc [3,6,7,5,1,0,2] (by simp) (by simp) (p + 1) (by omega) (by omega)
  obtain ⟨nx,ac,q,g1,g2,g3,g4,g5,g6,kd3⟩ := x1p9 hc al (p + 1 + 1) (by omega) (by omega)
  simp only [ints,List.map_cons,List.map_nil,List.length_cons,List.length_nil,Nat.zero_add,Nat.reduceAdd] at kd2
  refine ⟨al,nx,ac,q,g1,by omega,g3,g4,by omega,by omega,fun R L n hq k hn hL => x3n x1id rfl (by simp [autD,idsA,idsL]) ?_⟩
  unfold autD at kd3 ⊢
  clear g4
  obtain _ | n := n; omega
  rw [x16j]
  simp only [xzq,Try.f77,SLM,simprocAttr]
  simp -implicitDefEqProofs (maxSteps := 2000000) (disch := first | assumption | exact ⟨by kernel_rfl⟩ | omega | (simp only [GT,LN] <;> omega) | fail) only [↓DN,↓kAsg,↓kRet,UP,simprocAttr,↓x148,LA,hv,↓kd1,↓kd2,↓kd3]
theorem x16s {d : List (List Int)} : (xc d).take d.length = xc d := by
 rw [List.take_of_length_le (by simp [xc])]
theorem x1m0 {d : List (List Int)} {x y : Int} : xc d ++ [.ivs 2 [.int .i64 x,.int .i64 y]] = xc (d ++ [[x,y]]) := by
 simp [xc,rowD,ints]
theorem x1nx {d : List (List Int)} : (xc d).length = d.length := by simp [xc]
theorem x1h2 {c : List UInt8} (hc : c.length ≤ 2000) : ∀ (j i : Nat) (p : Int) (d : List (List Int)) (bl : List Bool) (hi : i + j = 12) (h1 : 1 ≤ i) (hd : d.length = i) (hb : bl.length = i) (hr : ∀ r ∈ d,r.length = 2) (hp : 0 ≤ p) (hp2 : p + 2 * j ≤ 1000000000),
  ∃ (d2 : List (List Int)) (bl2 : List Bool) (q : Int),d2.length = 12 ∧ bl2.length = 12 ∧ (∀ r ∈ d2,r.length = 2) ∧ p ≤ q ∧ q ≤ p + 2 * j ∧ ∀ (R : Type) (L n m : Nat) (k : Exit → List A → H → Option R),2 ≤ n → 2 ^ 60 ≤ L → j < m →
  xg env (x2 env L n) L 1 [] (U1 (Z1 (U2 (U1 (Z16 (Z8 (Z4 (Z2 (Z1 ([])))))))))) (xgs 0) (Z1 (U1 (Z2 (Z1 (U16 (U8 (U4 (U2 (U1 ([])))))))))) m (.ptr 0 0 0 :: Y1 (.ptr 1 0 0 :: .ptr 2 0 0 :: .d (.int .i64 ((i : Int))) :: Y16 (Y8 (Y4 (Y2 (Y1 ([]))))))) (rdO c p :: .box [.d (.int .i64 0),.sl 3 0 0 0,.sl 4 0 0 0] :: .box [.d (.int .i64 3),.sl 5 0 0 d.length,.sl 6 0 0 bl.length] :: .arr [] 0 0 :: .arr [] 0 0 :: .arr (xc d) 1 0 :: .arr (xb bl) 1 0 :: []) k
  = k (.exit 0) (.ptr 0 0 0 :: Y1 (.ptr 1 0 0 :: .ptr 2 0 0 :: .d (.int .i64 12) :: Y16 (Y8 (Y4 (Y2 (Y1 ([]))))))) (rdO c q :: .box [.d (.int .i64 0),.sl 3 0 0 0,.sl 4 0 0 0] :: .box [.d (.int .i64 3),.sl 5 0 0 d2.length,.sl 6 0 0 bl2.length] :: .arr [] 0 0 :: .arr [] 0 0 :: .arr (xc d2) 1 0 :: .arr (xb bl2) 1 0 :: []) := by
 intro j
 induction j with
 | zero =>
  intro i p d bl hi h1 hd hb hr hp hp2
  obtain rfl : i = 12 := by omega
  refine ⟨d,bl,p,hd,hb,hr,by omega,by omega,fun R L n m k hn hL hm => ?_⟩
  obtain _ | m := m; omega
  have e12 : ((12 : Nat) : Int) = 12 := rfl
  rw [e12]
  rw [xnw]
  simp only [xoi,Try.f75,SLM,simprocAttr]
  simp -implicitDefEqProofs (maxSteps := 2000000) (disch := first | assumption | exact ⟨by kernel_rfl⟩ | omega | (simp only [GT,LN] <;> omega) | fail) only [↓DN,↓kAsg,↓kRet,UP,simprocAttr,LA,Int.lt_irrefl]
 | succ j ih =>
  intro i p d bl hi h1 hd hb hr hp hp2
  obtain ⟨x,hx,kd1⟩ := xup hc [(i : Int),0,11] (by simp) (by simp) p hp (by omega)
  obtain ⟨v,v0,v1,_,kd2⟩ := x6s hc (p + 1) 5 (by omega) (by omega)
  obtain ⟨d2,bl2,q,g1,g2,g3,g4,g5,kd3⟩ := ih (i + 1) (p + 1 + 1) (d ++ [[((i : Int) + 1).tmod 12,x]]) (bl ++ [decide (v = 0)]) (by omega) (by omega) (by simp [hd]) (by simp [hb]) (by
   intro r hrm
   rcases List.mem_append.1 hrm with h | h
   ·exact hr r h
   ·simp at h; subst h; rfl) (by omega) (by omega)
  refine ⟨d2,bl2,q,g1,g2,g3,by omega,by omega,fun R L n m k hn hL hm => ?_⟩
  obtain _ | m := m; omega
  have kd3' := kd3 R L n m k hn hL (by omega)
  rw [show ((i + 1 : Nat) : Int) = (i : Int) + 1 by omega] at kd3'
  simp only [List.length_append,List.length_cons,List.length_nil,Nat.zero_add] at kd3'
  have hc1 : (i : Int) < 12 := by omega
  have hc2 : ¬ ((i : Int) = 0) := by omega
  have hb1 : (0 : Int) ≤ i := by omega
  have hdl : d.length ≤ 12 := by omega
  have hbl : bl.length ≤ 12 := by omega
  simp only [ints,List.map_cons,List.map_nil,List.length_cons,List.length_nil,Nat.zero_add,Nat.reduceAdd] at kd1
  clear ih kd3 hr g3
  rw [xnw]
  simp only [xoi,Try.f75,SLM,simprocAttr]
  simp -implicitDefEqProofs (maxSteps := 2000000) (disch := first | assumption | exact ⟨by kernel_rfl⟩ | omega | (simp only [GT,LN] <;> omega) | fail) only [↓DN,↓kAsg,↓kRet,UP,simprocAttr,LA,hc1,hc2,↓kd1,↓kd2,x16s,x1m0,x1nx,x4f,xax,xib,List.length_append,↓kd3',Nat.sub_self,List.range'_zero]
theorem x15j {c : List UInt8} (hc : c.length ≤ 2000) (p : Int) (hp : 0 ≤ p) (hp2 : p ≤ 900000000) :
  ∃ (d2 : List (List Int)) (bl2 : List Bool) (q : Int),d2.length = 12 ∧ bl2.length = 12 ∧ (∀ r ∈ d2,r.length = 2) ∧ p ≤ q ∧ q ≤ p + 40 ∧ ∀ (R : Type) (L n m : Nat) (k : Exit → List A → H → Option R),2 ≤ n → 2 ^ 60 ≤ L → 12 < m →
  xg env (x2 env L n) L 1 [] (U1 (Z1 (U2 (U1 (Z16 (Z8 (Z4 (Z2 (Z1 ([])))))))))) (xgs 0) (Z1 (U1 (Z2 (Z1 (U16 (U8 (U4 (U2 (U1 ([])))))))))) m (.ptr 0 0 0 :: Y1 (.ptr 1 0 0 :: .ptr 2 0 0 :: .d (.int .i64 0) :: Y16 (Y8 (Y4 (Y2 (Y1 ([]))))))) (rdO c p :: .box [.d (.int .i64 0),.sl 3 0 0 0,.sl 4 0 0 0] :: .box [.d (.int .i64 3),.sl 5 0 0 0,.sl 6 0 0 0] :: .arr [] 0 0 :: .arr [] 0 0 :: .arr [] 0 0 :: .arr [] 0 0 :: []) k
  = k (.exit 0) (.ptr 0 0 0 :: Y1 (.ptr 1 0 0 :: .ptr 2 0 0 :: .d (.int .i64 12) :: Y16 (Y8 (Y4 (Y2 (Y1 ([]))))))) (rdO c q :: .box [.d (.int .i64 0),.sl 3 0 0 0,.sl 4 0 0 0] :: .box [.d (.int .i64 3),.sl 5 0 0 d2.length,.sl 6 0 0 bl2.length] :: .arr [] 0 0 :: .arr [] 0 0 :: .arr (xc d2) 1 0 :: .arr (xb bl2) 1 0 :: []) := by
 obtain ⟨x,hx,kd1⟩ := xup hc [0,0,11] (by simp) (by simp) p hp (by omega)
 obtain ⟨d2,bl2,q,g1,g2,g3,g4,g5,kd3⟩ := x1h2 hc 11 1 (p + 1) [[1,x]] [true] (by omega) (by omega) rfl rfl (by simp) (by omega) (by omega)
 refine ⟨d2,bl2,q,g1,g2,g3,by omega,by omega,fun R L n m k hn hL hm => ?_⟩
 obtain _ | m := m; omega
 have kd3' := kd3 R L n m k hn hL (by omega)
 simp only [ints,List.map_cons,List.map_nil,List.length_cons,List.length_nil,Nat.zero_add,Nat.reduceAdd] at kd1
 have e1 : xc [[1,x]] = [.ivs 2 [.int .i64 1,.int .i64 x]] := rfl
 have e2 : xb [true] = [.bool true] := rfl
 have e3 : ((1 : Nat) : Int) = 1 := rfl
 rw [e1,e2,e3] at kd3'
 simp only [List.length_cons,List.length_nil,Nat.zero_add] at kd3'
 clear kd3
 rw [xnw]
 simp only [xoi,Try.f75,SLM,simprocAttr]
 simp -implicitDefEqProofs (maxSteps := 2000000) (disch := first | assumption | exact ⟨by kernel_rfl⟩ | omega | (simp only [GT,LN] <;> omega) | fail) only [↓DN,↓kAsg,↓kRet,UP,simprocAttr,LA,↓kd1,↓kd3',Nat.sub_self,List.range'_zero]
theorem x1od {c : List UInt8} (hc : c.length ≤ 2000) (p : Int) (hp : 0 ≤ p) (hp2 : p ≤ 900000000) :
  ∃ (nx : List (List Int)) (ac : List Bool) (q : Int),nx.length = 12 ∧ ac.length = 12 ∧ (∀ r ∈ nx,r.length = (x8 3).length) ∧ p ≤ q ∧ q ≤ p + 40 ∧ ∀ (L n : Nat),3 ≤ n → 2 ^ 60 ≤ L →
  x2 env L n 75 [.ptr 0 0 0] [rdO c p] = some (autD 3 nx ac,[rdO c q]) := by
 obtain ⟨d2,bl2,q,g1,g2,g3,g4,g5,kd⟩ := x15j hc p hp hp2
 refine ⟨d2,bl2,q,g1,g2,g3,by omega,by omega,fun L n hn hL => ?_⟩
 have loop_a := fun {R : Type} {n : Nat} {k : Exit → List A → H → Option R} (hn : 2 ≤ n) => kd R L n L k hn hL (by omega)
 have hr1 := xle (l := d2)
 have hb1 := x4f (l := bl2)
 unfold autD
 clear kd g3
 obtain _ | n := n; omega
 rw [x1o8]
 simp only [x1gc,Try.f75,SLM,simprocAttr]
 simp -implicitDefEqProofs (maxSteps := 2000000) (disch := first | assumption | exact ⟨by kernel_rfl⟩ | omega | (simp only [GT,LN] <;> omega) | fail) only [↓DN,↓kAsg,↓kRet,UP,simprocAttr,LA,↓loop_a,hr1,hb1,x16s,Nat.le_refl,xax]
theorem x14j {d : List (List Int)} {o o1 o2 o3 : O} {p : H} {k : Nat} (h : k = d.length + 3) : (x9 d ++ o1 :: o2 :: o3 :: o :: p)[k]? = some o := by
 subst h
 rw [List.getElem?_append_right (by rw [x30]; omega),x30,Nat.add_sub_cancel_left]
 rfl
theorem xga {t : H} {y1 y2 : D} {v w n m gv gw : Nat} {al : Int} {rs : List (List Int)} {ac : List Bool} (k1 : rd1 (.box [.d y1,.d y2] :: t) (.sl v gv 0 n) = some (.ivs rs.length (xc rs))) (k2 : rd1 (.box [.d y1,.d y2] :: t) (.sl w gw 0 m) = some (.ivs ac.length (xb ac))) (hv : 1 ≤ v) (hw : 1 ≤ w) :
  ∃ h2,xcs 1 false (.box [.d y1,.d y2] :: t) [.agg [.d (.int .i64 al),.sl v gv 0 n,.sl w gw 0 m]] = some ([autD al rs ac],h2) ∧ x4 1099511627776 h2 (x4p (List.take 1 h2)) [0] = [0] ∧ List.getD h2 0 default = .box [.d y1,.d y2] := by
 obtain ⟨ha,e1,i1⟩ := x153 4 (x1gg _) k1
 obtain ⟨hb,e2,i2⟩ := x153 4 i1 k2
 have h0 : hb[0]? = some (.box [.d y1,.d y2]) := by
  rcases i2 0 with h | ⟨_,_,_,h,_⟩ | ⟨_,_,_,_,h,_⟩
  ·rw [h]; rfl
  ·cases h
  ·cases h
 obtain ⟨t2,rfl⟩ : ∃ t2,hb = .box [.d y1,.d y2] :: t2 := by
  cases hb with
  | nil => simp at h0
  | cons o t2 => simp at h0; exact ⟨t2,by rw [h0]⟩
 refine ⟨.box [.d y1,.d y2] :: t2,?_,rfl,rfl⟩
 have hv1 : ¬ (v < 1) := by omega
 have hv2 : ¬ (w < 1) := by omega
 simp only [xcs,outA,xmf,outS,hv1,hv2,decide_false,Bool.false_or,Bool.or_false,Bool.or_self,Bool.false_eq_true,if_false]
 rw [show deep = 4 + 1 from rfl,e1]
 simp only [Option.map_some]
 rw [e2]
 rfl
theorem xdq : (env.hint 76).mode = 0 := by kernel_rfl
theorem x14m {R : Type} {L n : Nat} {hq : H} {al : Int} {rs : List (List Int)} {ac : List Bool} {k : A → H → Option R} (hs : xt rs) (h1 : 1 ≤ rs.length) (ha : ac.length ≤ 4294967295) (hn : 2 ≤ n) (hL : 2 ^ 60 ≤ L) :
  xe env (x2 env L n) hq 103 [.agg [.d (.int .i64 al),.d (.ivs rs.length (xc rs)),.d (.ivs ac.length (xb ac))]] k = k (autA hq.length al rs.length ac.length) (hq ++ autO hq.length rs ac) := by
 have he := x1lm hn al rs ac hs h1 ha hL
 have hb : ∀ b i,i < rs.length + 2 → back [] b (autO 0 rs ac).length i = some (b + i) := fun b i hi => x1k1 (by rw [xzh]; exact hi)
 have hA : ∀ b,mapA (back [] b (autO 0 rs ac).length) (autA 0 al rs.length ac.length) = autA b al rs.length ac.length := fun b => x1km (by simpa using hb b 0 (by omega)) (by simpa using hb b 1 (by omega))
 have hO : ∀ b,(autO 0 rs ac).map (mapO (back [] b (autO 0 rs ac).length)) = autO b rs ac := fun b => x1ux xzh
 obtain ⟨o,t,hot⟩ : ∃ o t,autO 0 rs ac = o :: t := ⟨_,_,rfl⟩
 have hcall : x36 (x2 env L n) env.hint [] 103 [.agg [.d (.int .i64 al),.d (.ivs rs.length (xc rs)),.d (.ivs ac.length (xb ac))]] = some (autA 0 al rs.length ac.length,autO 0 rs ac) := by
  have h2 := hA 0
  have h3 := hO 0
  have hf : x6e [] [.agg [.d (.int .i64 al),.d (.ivs rs.length (xc rs)),.d (.ivs ac.length (xb ac))]] = some ([.agg [.d (.int .i64 al),.d (.ivs rs.length (xc rs)),.d (.ivs ac.length (xb ac))]],[]) := rfl
  rw [hot] at he h2 h3 ⊢
  unfold x36
  rw [xq5]
  simp only [hf,he,List.length_nil,List.nil_append,h2,h3]
 have hids : idsL [A.agg [.d (.int .i64 al),.d (.ivs rs.length (xc rs)),.d (.ivs ac.length (xb ac))]] = [] := by simp [idsL,idsA]
 unfold xe
 rw [hids,xzx,x9y _ hids]
 have hp : pack hq [] = [] := rfl
 rw [hp,hcall]
 simp only [List.length_nil,Nat.zero_le,true_and,closed,List.all_nil,Bool.and_self,if_true,x18,hA,hO]
theorem x1kg {c : List UInt8} (hc : c.length ≤ 2000) (al : Int) (nx : List (List Int)) (ac : List Bool) (hs : xt nx) (h1 : 1 ≤ nx.length) (ha : ac.length ≤ 4294967295) (p t u : Int) (hu0 : ¬ (u = 0)) (hu1 : ¬ (u = 1)) (hu2 : ¬ (u = 2)) (hu3 : ¬ (u = 3)) (hu4 : ¬ (u = 4)) (hu5 : ¬ (u = 5))
  (kd1 : (Dw 1 74 [.d (.int .i64 (nx.length))] (.d (.int .i64 t)) c p (p + 1)))
  (kd2 : (Dw 1 74 [.d (.int .i64 30)] (.d (.int .i64 u)) c (p + 1) (p + 1 + 1))) : (Dw 4 76 [autD al nx ac] (autD al nx ac) c p (p + 1 + 1)) := by
 intro R L n hq k hn hL
 refine x3n xdq (by simp [autD,idsA,idsL]) (by simp [autD,idsA,idsL]) ?_
 have hnl := hs.1
 have kd3 := fun {R : Type} {n : Nat} {hq : H} {k : A → H → Option R} (hn : 2 ≤ n) => x14m (R := R) (L := L) (n := n) (hq := hq) (al := al) (k := k) hs h1 ha hn hL
 simp only [autA,autO] at kd3
 have hH : Has (rdO c (p + 1 + 1) :: .box [.d (.int .i64 al),.d (.ivs nx.length (xc nx)),.d (.ivs ac.length (xb ac))] :: .arr [] 0 0 :: .arr [] 0 0 :: .box [.d (.int .i64 al),.sl 5 0 0 nx.length,.sl 6 0 0 ac.length] :: .vec (x3 7 nx ++ x6 0) 1 0 :: .arr (xb ac) 1 0 :: (x9 nx ++ .arr [] 0 0 :: .arr [] 0 0 :: .box [.d (.int .i64 al),.sl 5 0 0 nx.length,.sl 6 0 0 ac.length] :: [])) 5 nx ac := by
  have := x14x (h := [rdO c (p + 1 + 1),.box [.d (.int .i64 al),.d (.ivs nx.length (xc nx)),.d (.ivs ac.length (xb ac))],.arr [] 0 0,.arr [] 0 0,.box [.d (.int .i64 al),.sl 5 0 0 nx.length,.sl 6 0 0 ac.length]]) (v := 5) (rs := nx) (ac := ac) (p := .arr [] 0 0 :: .arr [] 0 0 :: .box [.d (.int .i64 al),.sl 5 0 0 nx.length,.sl 6 0 0 ac.length] :: []) rfl
  simpa using this
 obtain ⟨h2,st_out,st_keep,st_trim⟩ := x152 (n := nx.length) (m := ac.length) (al := al) hH (by omega) rfl rfl
 unfold autD at st_out ⊢
 clear hH
 obtain _ | n := n; omega
 rw [xa1]
 simp only [x9u,Try.f76,SLM,simprocAttr]
 simp -implicitDefEqProofs (maxSteps := 2000000) (disch := first | assumption | exact ⟨by kernel_rfl⟩ | omega | (simp only [GT,LN] <;> omega) | fail) only [↓DN,↓kAsg,↓kRet,UP,simprocAttr,LA,hu0,hu1,hu2,hu3,hu4,hu5,↓kd1,↓kd2,↓kd3,x30,List.append_assoc,List.cons_append,List.nil_append,xkq,xt0,xq1,↓st_out,↓st_keep,↓st_trim]
theorem x1nv {c : List UInt8} (hc : c.length ≤ 2000) (al : Int) (nx : List (List Int)) (ac : List Bool) (hs : xt nx) (h1 : 1 ≤ nx.length) (ha : ac.length ≤ 4294967295) (p t : Int) (hp : 0 ≤ p) (hp2 : p ≤ 900000000)
  (kd1 : (Dw 1 74 [.d (.int .i64 (nx.length))] (.d (.int .i64 t)) c p (p + 1)))
  (kd2 : (Dw 1 74 [.d (.int .i64 30)] (.d (.int .i64 0)) c (p + 1) (p + 1 + 1))) : ∃ al2 : Int,(Dw 4 76 [autD al nx ac] (autD al2 nx ac) c p (p + 1 + 1 + 1)) := by
 obtain ⟨al2,_,kd4⟩ := xup hc [64,-1,1,63,0] (by simp) (by simp) (p + 1 + 1) (by omega) (by omega)
 simp only [ints,List.map_cons,List.map_nil,List.length_cons,List.length_nil,Nat.zero_add,Nat.reduceAdd] at kd4
 refine ⟨al2,?_⟩
 intro R L n hq k hn hL
 refine x3n xdq (by simp [autD,idsA,idsL]) (by simp [autD,idsA,idsL]) ?_
 have hnl := hs.1
 have kd3 := fun {R : Type} {n : Nat} {hq : H} {k : A → H → Option R} (hn : 2 ≤ n) => x14m (R := R) (L := L) (n := n) (hq := hq) (al := al) (k := k) hs h1 ha hn hL
 simp only [autA,autO] at kd3
 have hH : Has (rdO c (p + 1 + 1 + 1) :: .box [.d (.int .i64 al),.d (.ivs nx.length (xc nx)),.d (.ivs ac.length (xb ac))] :: .arr [] 0 0 :: .arr [] 0 0 :: .box [.d (.int .i64 al2),.sl 5 0 0 nx.length,.sl 6 0 0 ac.length] :: .vec (x3 7 nx ++ x6 0) 1 0 :: .arr (xb ac) 1 0 :: (x9 nx ++ .arr [] 0 0 :: .arr [] 0 0 :: .box [.d (.int .i64 al2),.sl 5 0 0 nx.length,.sl 6 0 0 ac.length] :: .arr [.int .i64 64,.int .i64 (-1),.int .i64 1,.int .i64 63,.int .i64 0] 1 0 :: [])) 5 nx ac := by
  have := x14x (h := [rdO c (p + 1 + 1 + 1),.box [.d (.int .i64 al),.d (.ivs nx.length (xc nx)),.d (.ivs ac.length (xb ac))],.arr [] 0 0,.arr [] 0 0,.box [.d (.int .i64 al2),.sl 5 0 0 nx.length,.sl 6 0 0 ac.length]]) (v := 5) (rs := nx) (ac := ac) (p := .arr [] 0 0 :: .arr [] 0 0 :: .box [.d (.int .i64 al2),.sl 5 0 0 nx.length,.sl 6 0 0 ac.length] :: .arr [.int .i64 64,.int .i64 (-1),.int .i64 1,.int .i64 63,.int .i64 0] 1 0 :: []) rfl
  simpa using this
 obtain ⟨h2,st_out,st_keep,st_trim⟩ := x152 (n := nx.length) (m := ac.length) (al := al2) hH (by omega) rfl rfl
 have hnum : (O.box [.d (.int .i64 al),.d (.ivs nx.length (xc nx)),.d (.ivs ac.length (xb ac))] :: .arr [] 0 0 :: .arr [] 0 0 :: .box [.d (.int .i64 0),.sl 2 0 0 0,.sl 3 0 0 0] :: .vec (x3 7 nx ++ x6 0) 1 0 :: .arr (xb ac) 1 0 :: (x9 nx ++ [.arr [] 0 0,.arr [] 0 0,.box [.d (.int .i64 al),.sl 5 0 0 nx.length,.sl 6 0 0 ac.length],.arr [.int .i64 64,.int .i64 (-1),.int .i64 1,.int .i64 63,.int .i64 0] 1 0]))[nx.length + 3 + 1 + 1 + 1 + 1 + 1 + 1]? = some (.arr [.int .i64 64,.int .i64 (-1),.int .i64 1,.int .i64 63,.int .i64 0] 1 0) := by
  simp only [List.getElem?_cons_succ]
  exact x14j rfl
 unfold autD at st_out ⊢
 clear hH
 obtain _ | n := n; omega
 rw [xa1]
 simp only [x9u,Try.f76,SLM,simprocAttr]
 simp -implicitDefEqProofs (maxSteps := 2000000) (disch := first | assumption | exact ⟨by kernel_rfl⟩ | omega | (simp only [GT,LN] <;> omega) | fail) only [↓DN,↓kAsg,↓kRet,UP,simprocAttr,LA,↓kd1,↓kd2,↓kd3,↓kd4,x14j,x30,List.append_assoc,List.cons_append,List.nil_append,xkq,xt0,xq1,↓st_out,↓st_keep,↓st_trim]
abbrev Str := List UInt8
theorem xkx {l : List Str} {k : Nat} (h : l.length ≤ k) : (x15 l).take k = x15 l := List.take_of_length_le (by rw [xku]; exact h)
theorem x1ap {l : List Str} {v : Str} : x15 l ++ [.str v] = x15 (l ++ [v]) := by simp [x15]
theorem x1rp : x15 [] = [] := rfl
theorem SE : type_of% (AI @xku (AI @xkx @xyw)) :=
 ⟨@xku,@xkx,@xyw⟩
def x6u (l : List Str) (v : Str) (i : Nat) : Bool := decide (l.getD i [] = v)
theorem x137 {l : List Str} {v : Str} : (seek (x6u l v) l.length 0).isSome = decide (v ∈ l) := by
 have h : (seek (x6u l v) l.length 0).isSome = true ↔ v ∈ l := by
  constructor
  ·intro h
   cases hs : seek (x6u l v) l.length 0 with
   | none => rw [hs] at h; cases h
   | some r =>
    obtain ⟨h1,h2,h3,_⟩ := xvb hs
    unfold x6u at h3
    rw [decide_eq_true_eq] at h3
    rw [← h3]
    exact x18f (by omega)
  ·intro h
   obtain ⟨i,hi,rfl⟩ := List.getElem_of_mem h
   cases hs : seek (x6u l l[i]) l.length 0 with
   | some r => rfl
   | none =>
    have := xow.1 hs i (by omega) (by omega)
    unfold x6u at this
    rw [List.getD_eq_getElem?_getD,List.getElem?_eq_getElem hi] at this
    simp at this
 cases hb : (seek (x6u l v) l.length 0).isSome with
 | true => rw [decide_eq_true (h.1 hb)]
 | false => rw [decide_eq_false fun hv => by rw [h.2 hv] at hb; cases hb]
theorem x1jn {R : Type} {L n : Nat} (hn : 1 ≤ n) {l : List Str} {v : Str} (hl : l.length ≤ 4294967296) {k : Exit → List A → H → Option R} : ∀ (j i m : Nat) (hi : i + j = l.length) (hm : j < m),
  xg env (x2 env L n) L 0 [] (U2 (Z2 (U2 (Z8 (Z4 ([])))))) (xkw 0) (Z2 (U2 (Z2 (U8 (U4 ([])))))) m (.d (.ivs l.length (x15 l)) :: .d (.str v) :: Y2 (.d (.bool false) :: .d (.int .i64 ((i : Int))) :: Y8 (Y4 ([])))) [] k
  = match seek (x6u l v) j i with
   | none => k (.exit 0) (.d (.ivs l.length (x15 l)) :: .d (.str v) :: Y2 (.d (.bool false) :: .d (.int .i64 (l.length)) :: Y8 (Y4 ([])))) []
   | some q => k .ret (.d (.ivs l.length (x15 l)) :: .d (.str v) :: Y2 (.d (.bool true) :: .d (.int .i64 ((q : Int))) :: Y8 (Y4 ([])))) [] := by
 intro j
 induction j with
 | zero =>
  intro i m hi hm
  obtain _ | m := m; omega
  obtain rfl : i = l.length := by omega
  rw [xnt]
  simp only [xon,Try.f57,SLM,simprocAttr]
  simp -implicitDefEqProofs (maxSteps := 2000000) (disch := first | assumption | exact ⟨by kernel_rfl⟩ | omega | (simp only [GT,LN] <;> omega) | fail) only [↓DN,↓kAsg,↓kRet,UP,simprocAttr,SE,Int.lt_irrefl]
  rfl
 | succ j ih =>
  intro i m hi hm
  obtain _ | m := m; omega
  have hc : (i : Int) < l.length := by omega
  have hk : i < l.length := by omega
  have hi0 : (0 : Int) ≤ i := by omega
  by_cases h1 : l.getD i [] = v
  ·have hb : x6u l v i = true := by unfold x6u; rw [decide_eq_true h1]
   rw [xam hb]
   clear ih
   rw [xnt]
   simp only [xon,Try.f57,SLM,simprocAttr]
   simp -implicitDefEqProofs (maxSteps := 2000000) (disch := first | assumption | exact ⟨by kernel_rfl⟩ | omega | (simp only [GT,LN] <;> omega) | fail) only [↓DN,↓kAsg,↓kRet,UP,simprocAttr,SE,hc,hi0,h1,Int.toNat_natCast,beq_self_eq_true]
  ·have hb : x6u l v i = false := by unfold x6u; rw [decide_eq_false h1]
   rw [xcb hb]
   have ih' := ih (i + 1) m (by omega) (by omega)
   rw [show ((i + 1 : Nat) : Int) = (i : Int) + 1 by omega] at ih'
   have h2 : (l.getD i [] == v) = false := by simpa using h1
   clear ih
   rw [xnt]
   simp only [xon,Try.f57,SLM,simprocAttr]
   simp -implicitDefEqProofs (maxSteps := 2000000) (disch := first | assumption | exact ⟨by kernel_rfl⟩ | omega | (simp only [GT,LN] <;> omega) | fail) only [↓DN,↓kAsg,↓kRet,UP,simprocAttr,SE,hc,hi0,h2,Int.toNat_natCast,↓ih']
theorem x1c2 {L n : Nat} (hn : 2 ≤ n) (l : List Str) (v : List UInt8) (hl : l.length ≤ 4294967296) (hL : 2 ^ 60 ≤ L) : x2 env L n 57 [.d (.ivs l.length (x15 l)),.d (.str v)] [] = some (.d (.bool (decide (v ∈ l))),[]) := by
 have loop_c := fun {R : Type} {n : Nat} {k : Exit → List A → H → Option R} (hn : 1 ≤ n) => @x1jn R L n hn l v hl k l.length 0 L (by omega) (by omega)
 rw [← x137]
 simp only [Int.natCast_zero] at loop_c
 cases hs : seek (x6u l v) l.length 0 with
 | none =>
  rw [hs] at loop_c
  simp only [Option.isSome_none]
  obtain _ | n := n; omega
  rw [x1af]
  simp only [x121,Try.f57,SLM,simprocAttr]
  simp -implicitDefEqProofs (maxSteps := 2000000) (disch := first | assumption | exact ⟨by kernel_rfl⟩ | omega | (simp only [GT,LN] <;> omega) | fail) only [↓DN,↓kAsg,↓kRet,UP,simprocAttr,SE,↓loop_c]
 | some q =>
  rw [hs] at loop_c
  simp only [Option.isSome_some]
  obtain _ | n := n; omega
  rw [x1af]
  simp only [x121,Try.f57,SLM,simprocAttr]
  simp -implicitDefEqProofs (maxSteps := 2000000) (disch := first | assumption | exact ⟨by kernel_rfl⟩ | omega | (simp only [GT,LN] <;> omega) | fail) only [↓DN,↓kAsg,↓kRet,UP,simprocAttr,SE,↓loop_c]
theorem xc1 {R : Type} {L n : Nat} {hq : H} {k : A → H → Option R} (hn : 2 ≤ n) (l : List Str) (v : List UInt8) (hl : l.length ≤ 4294967296) (hL : 2 ^ 60 ≤ L) : xe env (x2 env L n) hq 57 [.d (.ivs l.length (x15 l)),.d (.str v)] k = k (.d (.bool (decide (v ∈ l)))) hq :=
 xr rfl (x1c2 hn l v hl hL) rfl (.inl rfl)
theorem xgv {R : Type} {L n : Nat} {k : A → Option R} (hn : 2 ≤ n) (l : List Str) (v : List UInt8) (hl : l.length ≤ 4294967296) (hL : 2 ^ 60 ≤ L) : x14 (x2 env L n) 57 [.d (.ivs l.length (x15 l)),.d (.str v)] k = k (.d (.bool (decide (v ∈ l)))) :=
 x4l (x1c2 hn l v hl hL) rfl
theorem x9z {R : Type} {L n : Nat} {hq : H} {k : A → H → Option R} {id0 g0 o0 len0 : Nat} {v : List UInt8} : xe env (x2 env L n) hq 57 [.sl id0 g0 o0 len0,.d (.str v)] k = match box (x2m hq [.sl id0 g0 o0 len0,.d (.str v)]) with
  | .mk (some fs) => x14 (x2 env L n) 57 fs fun r => k r hq
  | _ => none := xp xtm
theorem xkj {R : Type} {L n : Nat} (hn : 1 ≤ n) {l : List Str} {v : Str} {i5 : A} (hl : l.length ≤ 4294967296) {k : Exit → List A → H → Option R} : ∀ (j i m : Nat) (hi : i + j = l.length) (hm : j < m),
  xg env (x2 env L n) L 0 [] (U2 (Z2 (U1 (Z2 (U2 (Z8 (Z2 ([])))))))) (x4o 0) (Z2 (U2 (Z1 (U2 (Z2 (U8 (U2 ([])))))))) m (.d (.ivs l.length (x15 l)) :: .d (.str v) :: Y2 (.d (.int .i64 0) :: Y2 (.d (.int .i64 (l.length)) :: .d (.int .i64 ((i : Int))) :: Y8 (Y2 ([]))))) [] k
  = match seek (x6u l v) j i with
   | none => k (.exit 0) (.d (.ivs l.length (x15 l)) :: .d (.str v) :: Y2 (.d (.int .i64 0) :: Y2 (.d (.int .i64 (l.length)) :: .d (.int .i64 (l.length)) :: Y8 (Y2 ([]))))) []
   | some q => k .ret (.d (.ivs l.length (x15 l)) :: .d (.str v) :: Y2 (.d (.int .i64 ((q : Int))) :: Y2 (.d (.int .i64 (l.length)) :: .d (.int .i64 ((q : Int))) :: Y8 (Y2 ([]))))) [] := by
 intro j
 induction j with
 | zero =>
  intro i m hi hm
  obtain _ | m := m; omega
  obtain rfl : i = l.length := by omega
  rw [x7h]
  simp only [x65,Try.f90,SLM,simprocAttr]
  simp -implicitDefEqProofs (maxSteps := 2000000) (disch := first | assumption | exact ⟨by kernel_rfl⟩ | omega | (simp only [GT,LN] <;> omega) | fail) only [↓DN,↓kAsg,↓kRet,UP,simprocAttr,SE,Int.lt_irrefl]
  rfl
 | succ j ih =>
  intro i m hi hm
  obtain _ | m := m; omega
  have hc : (i : Int) < l.length := by omega
  have hk : i < l.length := by omega
  have hi0 : (0 : Int) ≤ i := by omega
  by_cases h1 : l.getD i [] = v
  ·have hb : x6u l v i = true := by unfold x6u; rw [decide_eq_true h1]
   rw [xam hb]
   clear ih
   rw [x7h]
   simp only [x65,Try.f90,SLM,simprocAttr]
   simp -implicitDefEqProofs (maxSteps := 2000000) (disch := first | assumption | exact ⟨by kernel_rfl⟩ | omega | (simp only [GT,LN] <;> omega) | fail) only [↓DN,↓kAsg,↓kRet,UP,simprocAttr,SE,hc,hi0,h1,Int.toNat_natCast,beq_self_eq_true]
  ·have hb : x6u l v i = false := by unfold x6u; rw [decide_eq_false h1]
   rw [xcb hb]
   have ih' := ih (i + 1) m (by omega) (by omega)
   rw [show ((i + 1 : Nat) : Int) = (i : Int) + 1 by omega] at ih'
   have h2 : (v == l.getD i []) = false := by simpa using fun h => h1 h.symm
   clear ih
   rw [x7h]
   simp only [x65,Try.f90,SLM,simprocAttr]
   simp -implicitDefEqProofs (maxSteps := 2000000) (disch := first | assumption | exact ⟨by kernel_rfl⟩ | omega | (simp only [GT,LN] <;> omega) | fail) only [↓DN,↓kAsg,↓kRet,UP,simprocAttr,SE,hc,hi0,h2,Int.toNat_natCast,↓ih']
def xy4 (l : List Str) (v : Str) : Int := match seek (x6u l v) l.length 0 with | none => -1 | some q => q
theorem xcq {L n : Nat} (hn : 2 ≤ n) (l : List Str) (v : List UInt8) (hl : l.length ≤ 4294967296) (hL : 2 ^ 60 ≤ L) : x2 env L n 90 [.d (.ivs l.length (x15 l)),.d (.str v)] [] = some (.d (.int .i64 (xy4 l v)),[]) := by
 have loop_c := fun {R : Type} {n : Nat} {k : Exit → List A → H → Option R} (hn : 1 ≤ n) => @xkj R L n hn l v (.junk) hl k l.length 0 L (by omega) (by omega)
 simp only [Int.natCast_zero] at loop_c
 unfold xy4
 cases hs : seek (x6u l v) l.length 0 with
 | none =>
  rw [hs] at loop_c
  simp only
  obtain _ | n := n; omega
  rw [xcp]
  simp only [x9k,Try.f90,SLM,simprocAttr]
  simp -implicitDefEqProofs (maxSteps := 2000000) (disch := first | assumption | exact ⟨by kernel_rfl⟩ | omega | (simp only [GT,LN] <;> omega) | fail) only [↓DN,↓kAsg,↓kRet,UP,simprocAttr,SE,↓loop_c]
 | some q =>
  rw [hs] at loop_c
  simp only
  obtain _ | n := n; omega
  rw [xcp]
  simp only [x9k,Try.f90,SLM,simprocAttr]
  simp -implicitDefEqProofs (maxSteps := 2000000) (disch := first | assumption | exact ⟨by kernel_rfl⟩ | omega | (simp only [GT,LN] <;> omega) | fail) only [↓DN,↓kAsg,↓kRet,UP,simprocAttr,SE,↓loop_c]
theorem xmn {R : Type} {L n : Nat} {hq : H} {k : A → H → Option R} (hn : 2 ≤ n) (l : List Str) (v : List UInt8) (hl : l.length ≤ 4294967296) (hL : 2 ^ 60 ≤ L) : xe env (x2 env L n) hq 90 [.d (.ivs l.length (x15 l)),.d (.str v)] k = k (.d (.int .i64 (xy4 l v))) hq :=
 xr rfl (xcq hn l v hl hL) rfl (.inl rfl)
theorem xmm {R : Type} {L n : Nat} {k : A → Option R} (hn : 2 ≤ n) (l : List Str) (v : List UInt8) (hl : l.length ≤ 4294967296) (hL : 2 ^ 60 ≤ L) : x14 (x2 env L n) 90 [.d (.ivs l.length (x15 l)),.d (.str v)] k = k (.d (.int .i64 (xy4 l v))) :=
 x4l (xcq hn l v hl hL) rfl
theorem xkk {R : Type} {L n : Nat} {hq : H} {k : A → H → Option R} {id0 g0 o0 len0 : Nat} {v : List UInt8} : xe env (x2 env L n) hq 90 [.sl id0 g0 o0 len0,.d (.str v)] k = match box (x2m hq [.sl id0 g0 o0 len0,.d (.str v)]) with
  | .mk (some fs) => x14 (x2 env L n) 90 fs fun r => k r hq
  | _ => none := xp x83
theorem x1o7 {l : List Str} {v : Str} : decide (0 ≤ xy4 l v) = decide (v ∈ l) := by
 rw [← x137]
 unfold xy4
 cases seek (x6u l v) l.length 0 with
 | none => rfl
 | some q => simp
theorem xbg {L n : Nat} (hn : 3 ≤ n) (l : List Str) (v : List UInt8) (hl : l.length ≤ 4294967296) (hL : 2 ^ 60 ≤ L) : x2 env L n 61 [.d (.ivs l.length (x15 l)),.d (.str v)] [] = some (.d (.bool (decide (v ∈ l))),[]) := by
 rw [← x1o7]
 obtain _ | n := n; omega
 rw [xjg]
 simp only [xbq,Try.f61,SLM,simprocAttr]
 simp -implicitDefEqProofs (maxSteps := 2000000) (disch := first | assumption | exact ⟨by kernel_rfl⟩ | omega | (simp only [GT,LN] <;> omega) | fail) only [↓DN,↓kAsg,↓kRet,UP,simprocAttr,↓xmn,↓xmm,↓xkk,SE]
theorem x2e {R : Type} {L n : Nat} {hq : H} {k : A → H → Option R} (hn : 3 ≤ n) (l : List Str) (v : List UInt8) (hl : l.length ≤ 4294967296) (hL : 2 ^ 60 ≤ L) : xe env (x2 env L n) hq 61 [.d (.ivs l.length (x15 l)),.d (.str v)] k = k (.d (.bool (decide (v ∈ l)))) hq :=
 xr rfl (xbg hn l v hl hL) rfl (.inl rfl)
theorem x3c {R : Type} {L n : Nat} {k : A → Option R} (hn : 3 ≤ n) (l : List Str) (v : List UInt8) (hl : l.length ≤ 4294967296) (hL : 2 ^ 60 ≤ L) : x14 (x2 env L n) 61 [.d (.ivs l.length (x15 l)),.d (.str v)] k = k (.d (.bool (decide (v ∈ l)))) :=
 x4l (xbg hn l v hl hL) rfl
theorem x20 {R : Type} {L n : Nat} {hq : H} {k : A → H → Option R} {id0 g0 o0 len0 : Nat} {v : List UInt8} : xe env (x2 env L n) hq 61 [.sl id0 g0 o0 len0,.d (.str v)] k = match box (x2m hq [.sl id0 g0 o0 len0,.d (.str v)]) with
  | .mk (some fs) => x14 (x2 env L n) 61 fs fun r => k r hq
  | _ => none := xp x75
section
theorem x1ar (l : List Str) : x9i (.arr (x15 l) 1 0) = true := by
 have key : ∀ l : List Str,(l.map D.str).all xil = true := by
  intro l
  induction l with
  | nil => rfl
  | cons s l ih => simp only [List.map_cons,List.all_cons,ih,Bool.and_true]; rfl
 simp only [x9i]
 exact key l
section
variable {L n : Nat} {h : H}
end
end
end Ev
end Go.Proofs.Ytppdfjdfjfoddaa
