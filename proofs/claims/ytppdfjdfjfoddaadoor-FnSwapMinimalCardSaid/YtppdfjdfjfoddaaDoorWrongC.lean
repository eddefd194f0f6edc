/-
  Automata that are drawn: one whose bad state is a trap.
-/
import Derived.Test.YtppdfjdfjfoddaaDoorMemD
import Derived.Test.YtppdfjdfjfoddaaDoorRdNew
import Derived.Test.YtppdfjdfjfoddaaDoorDrawR
import Derived.Test.YtppdfjdfjfoddaaDoorEnvF
import Derived.Test.YtppdfjdfjfoddaaDoorEvDef
import Derived.Test.YtppdfjdfjfoddaaDoorAutoL
set_option linter.unusedSimpArgs false
set_option linter.unusedVariables false
set_option maxRecDepth 1000000
set_option maxHeartbeats 4000000
namespace Go.Proofs.YtppdfjdfjfoddaaDoor
namespace Ev
def AW (x:Int):Nat → Nat → List Bool → List Bool
 | 0,_,bl => bl
 | j + 1,i,bl => AW x j (i + 1) (bl.set i (decide ((i:Int) < x)))
theorem aD2 (x:Int):∀ (j i:Nat) (bl:List Bool),(AW x j i bl).length = bl.length
 | 0,_,_ => rfl
 | j + 1,i,bl => by rw [AW,aD2 x j,List.length_set]
def zG (x:Int):Nat → Nat → List Int → List Int
 | 0,_,r => r
 | j + 1,i,r => zG x j (i + 1) (r.set i x)
theorem SV (x:Int):∀ (j i:Nat) (r:List Int),(zG x j i r).length = r.length
 | 0,_,_ => rfl
 | j + 1,i,r => by rw [zG,SV x j,List.length_set]
theorem aLT {l:List Bool} {k:Nat} {v:Bool} (h:k < l.length):List.take k (aB l) ++ [D.bool v] ++ List.drop (k + 1) (aB l) = aB (l.set k v):=aJ6 h
theorem aGb {l:List Int} {k:Nat} {v:Int} (h:k < l.length):List.take k (ints l) ++ [D.int .i64 v] ++ List.drop (k + 1) (ints l) = ints (l.set k v):=JK h
theorem AD {rs:List (List Int)} {k:Nat} (h:k < rs.length):((aD 7 rs ++ aI 0).drop k).head? = some (.sl (k + 7) 0 0 (rs.getD k []).length):=by
 rw [aDP (b:=0) (k:=0) h,Nat.add_comm]
theorem SE {rs:List (List Int)} {b k:Nat} {r:List Int} (h:r.length = (rs.getD k []).length):aD b (rs.set k r) = aD b rs:=by
 apply aBk
 rw [List.map_set]
 by_cases hk:k < rs.length
 ·have:r.length = (rs.map List.length)[k]'(by simpa using hk):=by
   rw [h,List.getElem_map,List.getD_eq_getElem?_getD,List.getElem?_eq_getElem hk]; rfl
  rw [this,List.set_getElem_self]
 ·rw [List.set_eq_of_length_le (by simp; omega)]
theorem aQp {m:List Bool} {s:List A} {y1 y2 x0 x1:D} {k z:Nat} {cs:List D} {d d2:List (List Int)} (he:aD 7 d2 = aD 7 d) (hl:d2.length ≤ 4294967296):gc 1 m s (.box [.d y1,.d y2] :: .box [.d x0,.sl 3 0 0 0,.sl 4 0 0 0] :: .box [.d x1,.sl 5 0 0 k,.sl 6 0 0 z] :: .arr [] 0 0 :: .arr [] 0 0 :: .vec (aD 7 d ++ aI 0) 1 0 :: .arr cs 1 0 :: aJ d2) = match box (tidy m s) with
  | .mk s1 => if idsL s1 = [1,2] ∧ z0As s1 = true then (aH (CT d2.length) s1,.box [.d y1,.d y2] :: .box [.d x0,.sl 3 0 0 0,.sl 4 0 0 0] :: .box [.d x1,.sl 5 0 0 k,.sl 6 0 0 z] :: .arr [] 0 0 :: .arr [] 0 0 :: .vec (aD 7 d ++ aI 0) 1 0 :: .arr cs 1 0 :: aJ d2) else gcO 1 m s (.box [.d y1,.d y2] :: .box [.d x0,.sl 3 0 0 0,.sl 4 0 0 0] :: .box [.d x1,.sl 5 0 0 k,.sl 6 0 0 z] :: .arr [] 0 0 :: .arr [] 0 0 :: .vec (aD 7 d ++ aI 0) 1 0 :: .arr cs 1 0 :: aJ d2)
  | .no => ([],[]):=by
 rw [← he]
 exact G3 hl
theorem aCs {R:Type} {L n:Nat} {y1 y2 x0:D} {al st x:Int} {s:Nat} {nx:List (List Int)} (hx:st - 1 = x) (hst:st = s) (hs:s ≤ 100) (hnl:nx.length ≤ 4294967296) {k:Exit → List A → H → Option R}:∀ (j i m:Nat) (bl:List Bool) (len:Nat) (hi:i + j = s) (hm:j < m) (hbl:bl.length = s) (hlen:len = bl.length),
  aU env (aA env L n) L 1 [] (Z2 (U1 (Z2 (Z1 (U4 (Z32 (Z4 (Z2 (Z1 ([])))))))))) (kI 0) (U2 (Z1 (U2 (U1 (Z2 (Z1 (U32 (U8 ([]))))))))) m (Y2 (.d (.int .i64 st) :: Y2 (Y1 (.ptr 1 0 0 :: .ptr 2 0 0 :: .d (.int .i64 ((i:Int))) :: Y32 (Y8 ([])))))) (.box [.d y1,.d y2] :: .box [.d x0,.sl 3 0 0 0,.sl 4 0 0 0] :: .box [.d (.int .i64 al),.sl 5 0 0 nx.length,.sl 6 0 0 len] :: .arr [] 0 0 :: .arr [] 0 0 :: .vec (aD 7 nx ++ aI 0) 1 0 :: .arr (aB bl) 1 0 :: aJ nx) k
  = k (.exit 0) (Y2 (.d (.int .i64 st) :: Y2 (Y1 (.ptr 1 0 0 :: .ptr 2 0 0 :: .d (.int .i64 ((s:Int))) :: Y32 (Y8 ([])))))) (.box [.d y1,.d y2] :: .box [.d x0,.sl 3 0 0 0,.sl 4 0 0 0] :: .box [.d (.int .i64 al),.sl 5 0 0 nx.length,.sl 6 0 0 s] :: .arr [] 0 0 :: .arr [] 0 0 :: .vec (aD 7 nx ++ aI 0) 1 0 :: .arr (aB (AW x j i bl)) 1 0 :: aJ nx):=by
 intro j
 induction j with
 | zero =>
  intro i m bl len hi hm hbl hlen
  obtain _ | m:=m; omega
  obtain rfl:i = s:=by omega
  rw [hbl] at hlen
  subst hlen
  have hc1:¬ ((len:Int) < st):=by omega
  rw [KH]
  simp only [I7,Tryd.f90,SLM,simprocAttr]
  simp -implicitDefEqProofs (maxSteps:=2000000) (disch:=try exact Dz) only [↓DN,↓kAsg,↓kRet,UP,simprocAttr,LA,hc1,↓G3,z0As,z0A,eq_self,tA,tC,AW]
 | succ j ih =>
  intro i m bl len hi hm hbl hlen
  obtain _ | m:=m; omega
  subst hlen
  have hc1:(i:Int) < st:=by omega
  have hk:i < bl.length:=by omega
  have hb1:(0:Int) ≤ i:=by omega
  have ih':=ih (i + 1) m (bl.set i (decide ((i:Int) < x))) bl.length (by omega) (by omega) (by simpa using hbl) (by simp)
  rw [show ((i + 1:Nat):Int) = (i:Int) + 1 by omega] at ih'
  rw [AW]
  clear ih
  rw [KH]
  simp only [I7,Tryd.f90,SLM,simprocAttr]
  simp -implicitDefEqProofs (maxSteps:=2000000) (disch:=try exact Dz) only [↓DN,↓kAsg,↓kRet,UP,simprocAttr,LA,hc1,hx,yH,vX,aLT,↓G3,z0As,z0A,eq_self,tA,tC,↓ih']
theorem aCn {R:Type} {L n:Nat} {y1 y2 x0:D} {al st i9:Int} {s t:Nat} {bl:List Bool} {w:Nat} (hx:st - 1 = (t:Int)) (hs:s ≤ 100) (hw:w ≤ 100) (ht:t < s) {k:Exit → List A → H → Option R}:∀ (j i m:Nat) (nx:List (List Int)) (len:Nat) (hi:i + j = w) (hm:j < m) (hr:(nx.getD t []).length = w) (hnx:nx.length = s) (hlen:len = nx.length),
  aU env (aA env L n) L 1 [] (Z2 (U1 (Z2 (Z1 (U4 (Z32 (Z4 (Z2 (Z1 ([])))))))))) (kI 1) (U2 (Z1 (U2 (U1 (Z4 (U32 (U4 (U2 (U1 ([])))))))))) m (Y2 (.d (.int .i64 st) :: Y2 (Y1 (.ptr 1 0 0 :: .ptr 2 0 0 :: .d (.int .i64 i9) :: .d (.int .i64 ((i:Int))) :: Y32 (Y4 (Y2 (Y1 ([])))))))) (.box [.d y1,.d y2] :: .box [.d x0,.sl 3 0 0 0,.sl 4 0 0 0] :: .box [.d (.int .i64 al),.sl 5 0 0 len,.sl 6 0 0 bl.length] :: .arr [] 0 0 :: .arr [] 0 0 :: .vec (aD 7 nx ++ aI 0) 1 0 :: .arr (aB bl) 1 0 :: aJ nx) k
  = k (.exit 2) (Y2 (.d (.int .i64 st) :: Y2 (Y1 (.ptr 1 0 0 :: .ptr 2 0 0 :: .d (.int .i64 i9) :: .d (.int .i64 ((w:Int))) :: Y32 (Y4 (Y2 (Y1 ([])))))))) (.box [.d y1,.d y2] :: .box [.d x0,.sl 3 0 0 0,.sl 4 0 0 0] :: .box [.d (.int .i64 al),.sl 5 0 0 s,.sl 6 0 0 bl.length] :: .arr [] 0 0 :: .arr [] 0 0 :: .vec (aD 7 nx ++ aI 0) 1 0 :: .arr (aB bl) 1 0 :: aJ (nx.set t (zG t j i (nx.getD t [])))):=by
 intro j
 induction j with
 | zero =>
  intro i m nx len hi hm hr hnx hlen
  obtain _ | m:=m; omega
  obtain rfl:i = w:=by omega
  rw [hnx] at hlen
  subst hlen
  have hc1:¬ ((i:Int) < (i:Int)):=by omega
  have hnl:nx.length ≤ 4294967296:=by omega
  have hkd:t < nx.length:=by omega
  have hg:=aGM hkd
  have e1:nx.set t (nx.getD t []) = nx:=by
   rw [List.getD_eq_getElem?_getD,List.getElem?_eq_getElem hkd]
   exact List.set_getElem_self hkd
  rw [zG,e1]
  rw [K9]
  simp only [JP,Tryd.f90,SLM,simprocAttr]
  simp -implicitDefEqProofs (maxSteps:=2000000) (disch:=try exact Dz) only [↓DN,↓kAsg,↓kRet,UP,simprocAttr,LA,hx,hr,hc1,dZ,eN,AD,↓G3,z0As,z0A,eq_self,tA,tC]
 | succ j ih =>
  intro i m nx len hi hm hr hnx hlen
  obtain _ | m:=m; omega
  subst hlen
  have hnl:nx.length ≤ 4294967296:=by omega
  have hkd:t < nx.length:=by omega
  have hg:=aGM hkd
  have hc1:(i:Int) < (w:Int):=by omega
  have hk:i < (nx.getD t []).length:=by omega
  have hb1:(0:Int) ≤ i:=by omega
  have hgs:(nx.set t ((nx.getD t []).set i t)).getD t [] = (nx.getD t []).set i t:=by
   rw [List.getD_eq_getElem?_getD,List.getElem?_set_self hkd]; rfl
  have hrs:aD 7 (nx.set t ((nx.getD t []).set i t)) = aD 7 nx:=SE (by simp)
  have ih':=ih (i + 1) m (nx.set t ((nx.getD t []).set i t)) nx.length (by omega) (by omega) (by rw [hgs]; simpa using hr) (by simpa using hnx) (by simp)
  rw [show ((i + 1:Nat):Int) = (i:Int) + 1 by omega,hgs,hrs,List.set_set] at ih'
  rw [zG]
  have hnl2:(nx.set t ((nx.getD t []).set i t)).length ≤ 4294967296:=by rw [List.length_set]; omega
  clear ih hgs
  generalize hro:nx.getD t [] = ro at *
  rw [K9]
  simp only [JP,Tryd.f90,SLM,simprocAttr]
  simp -implicitDefEqProofs (maxSteps:=2000000) (disch:=try exact Dz) only [↓DN,↓kAsg,↓kRet,UP,simprocAttr,LA,hx,hr,hro,hg,hc1,dZ,eN,AD,aNc,aGb,↓aQp,hrs,hnl2,z0As,z0A,eq_self,tA,tC,↓ih']
theorem aBy {R:Type} {L n m:Nat} {y1 y2 x0:D} {al st i9:Int} {s t:Nat} {bl:List Bool} {w:Nat} {nx:List (List Int)} (hx:st - 1 = (t:Int)) (hs:s ≤ 100) (hw:w ≤ 100) (ht:t < s) (hm:w < m) (hr:(nx.getD t []).length = w) (hnx:nx.length = s) {k:Exit → List A → H → Option R} :
  aU env (aA env L n) L 1 [] (Z2 (U1 (Z2 (Z1 (U4 (Z32 (Z4 (Z2 (Z1 ([])))))))))) (kI 1) (U2 (Z1 (U2 (U1 (Z4 (U32 (U4 (U2 (U1 ([])))))))))) m (Y2 (.d (.int .i64 st) :: Y2 (Y1 (.ptr 1 0 0 :: .ptr 2 0 0 :: .d (.int .i64 i9) :: .d (.int .i64 0) :: Y32 (Y4 (Y2 (Y1 ([])))))))) (.box [.d y1,.d y2] :: .box [.d x0,.sl 3 0 0 0,.sl 4 0 0 0] :: .box [.d (.int .i64 al),.sl 5 0 0 s,.sl 6 0 0 bl.length] :: .arr [] 0 0 :: .arr [] 0 0 :: .vec (aD 7 nx ++ aI 0) 1 0 :: .arr (aB bl) 1 0 :: aJ nx) k
  = k (.exit 2) (Y2 (.d (.int .i64 st) :: Y2 (Y1 (.ptr 1 0 0 :: .ptr 2 0 0 :: .d (.int .i64 i9) :: .d (.int .i64 ((w:Int))) :: Y32 (Y4 (Y2 (Y1 ([])))))))) (.box [.d y1,.d y2] :: .box [.d x0,.sl 3 0 0 0,.sl 4 0 0 0] :: .box [.d (.int .i64 al),.sl 5 0 0 s,.sl 6 0 0 bl.length] :: .arr [] 0 0 :: .arr [] 0 0 :: .vec (aD 7 (nx.set t (zG t w 0 (nx.getD t []))) ++ aI 0) 1 0 :: .arr (aB bl) 1 0 :: aJ (nx.set t (zG t w 0 (nx.getD t [])))):=by
 rw [SE (by rw [SV])]
 exact aCn hx hs hw ht w 0 m nx s (by omega) hm hr hnx hnx.symm
theorem AJ {d:List (List Int)} {o o1 o2:O} {p:H} {k:Nat} (h:k = d.length + 2):(aJ d ++ o1 :: o2 :: o :: p)[k]? = some o:=by
 subst h
 rw [List.getElem?_append_right (by rw [dK]; omega),dK,Nat.add_sub_cancel_left]
 rfl
theorem HD {d:List (List Int)} {o o1 o2 q:O} {p:H} {k:Nat} (h:k = d.length + 2):(aJ d ++ o1 :: o2 :: o :: p).set k q = aJ d ++ o1 :: o2 :: q :: p:=by
 rw [List.set_append_right _ _ (by rw [dK]; omega),dK,h,Nat.add_sub_cancel_left]
 rfl
theorem E6 {d:List (List Int)} {o o1 o2 x:O} {p:H} {k:Nat} (h:k = d.length + 2):(aJ d ++ o1 :: o2 :: o :: p).getD k x = o:=by
 rw [List.getD_eq_getElem?_getD,AJ h]; rfl
theorem aHx {c:List UInt8} (hc:c.length ≤ 2000) (al st:Int) {s:Nat} (hst:st = s) (hs:s ≤ 100) (h1:1 ≤ s) (p:Int) (hp:0 ≤ p) (hp2:p + 7 * s ≤ 1000000000) :
  ∃ (nx:List (List Int)) (ac:List Bool) (q:Int),nx.length = s ∧ ac.length = s ∧ (∀ r ∈ nx,r.length = (aE al).length) ∧ p ≤ q ∧ q ≤ p + 7 * s ∧ ∀ (L n:Nat),4 ≤ n → 2 ^ 60 ≤ L →
  aA env L n 90 [.ptr 0 0 0,.d (.int .i64 al),.d (.int .i64 st)] [rdO c p] = some (autD al nx ac,[rdO c q]):=by
 obtain ⟨nx,ac,q,g1,g2,g3,g4,g5,he⟩:=Q3 hc al st hst hs h1 p hp hp2
 obtain ⟨t,rfl⟩:∃ t,s = t + 1:=⟨s - 1,by omega⟩
 have hx:st - 1 = (t:Int):=by omega
 have hw:=eP al
 have hk:t < nx.length:=by omega
 have hr:(nx.getD t []).length = (aE al).length:=by
  rw [List.getD_eq_getElem?_getD,List.getElem?_eq_getElem hk]
  exact g3 _ (List.getElem_mem hk)
 have hl1:(nx.set t (zG t (aE al).length 0 (nx.getD t []))).length = t + 1:=by rw [List.length_set,g1]
 have hl2:(AW (t:Int) (t + 1) 0 ac).length = t + 1:=by rw [aD2,g2]
 refine ⟨nx.set t (zG t (aE al).length 0 (nx.getD t [])),AW (t:Int) (t + 1) 0 ac,q,hl1,hl2,?_,g4,g5,fun L n hn hL => ?_⟩
 ·intro r hrm
  rcases List.mem_or_eq_of_mem_set hrm with h | h
  ·exact g3 r h
  ·rw [h,SV,hr]
 have kd:=fun {R:Type} {n:Nat} {hq:H} {k:A → H → Option R} (hn:3 ≤ n) => YI (R:=R) (L:=L) (n:=n) (hq:=hq) (k:=k) hn hL he
 have hnl:nx.length ≤ 4294967296:=by omega
 have loop_a:=fun {R:Type} {n:Nat} {y1 y2 x0:D} {k:Exit → List A → H → Option R} => aCs (R:=R) (L:=L) (n:=n) (y1:=y1) (y2:=y2) (x0:=x0) (al:=al) (nx:=nx) (k:=k) hx hst hs hnl (t + 1) 0 L ac ac.length (by omega) (by omega) g2 rfl
 have loop_b:=fun {R:Type} {n:Nat} {y1 y2 x0:D} {i9:Int} {k:Exit → List A → H → Option R} => aBy (R:=R) (L:=L) (n:=n) (m:=L) (y1:=y1) (y2:=y2) (x0:=x0) (al:=al) (i9:=i9) (bl:=AW (t:Int) (t + 1) 0 ac) (k:=k) hx hs (by omega) (by omega) (by omega) hr g1
 rw [hl2] at loop_b
 rw [g1,g2] at loop_a
 simp only [autA,autO,g1,g2] at kd
 simp only [Int.natCast_zero] at loop_a
 have hbl:(aB (AW (t:Int) (t + 1) 0 ac)).length = t + 1:=by rw [d7,hl2]
 generalize nx.set t (zG t (aE al).length 0 (nx.getD t [])) = nx2 at *
 generalize AW (t:Int) (t + 1) 0 ac = ac2 at *
 have hnl2:nx2.length ≤ 4294967296:=by omega
 have hH:Has (rdO c q :: .box [.d (.int .i64 al),.sl 5 0 0 (t + 1),.sl 6 0 0 (t + 1)] :: .box [.d (.int .i64 al),.sl 5 0 0 (t + 1),.sl 6 0 0 (t + 1)] :: .arr [] 0 0 :: .arr [] 0 0 :: .vec (aD 7 nx2 ++ aI 0) 1 0 :: .arr (aB ac2) 1 0 :: aJ nx2) 5 nx2 ac2:=by
  have:=VF (h:=[rdO c q,.box [.d (.int .i64 al),.sl 5 0 0 (t + 1),.sl 6 0 0 (t + 1)],.box [.d (.int .i64 al),.sl 5 0 0 (t + 1),.sl 6 0 0 (t + 1)],.arr [] 0 0,.arr [] 0 0]) (v:=5) (rs:=nx2) (ac:=ac2) (p:=[]) rfl
  simpa using this
 obtain ⟨h2,st_out,st_keep,st_trim⟩:=VR (n:=t + 1) (m:=t + 1) (al:=al) hH (by omega) hl1.symm hl2.symm
 simp only [autD] at st_out ⊢
 clear he g3 g4 g5 hH
 obtain _ | n:=n; omega
 rw [aHM]
 simp only [aBu,Tryd.f90,SLM,simprocAttr]
 simp -implicitDefEqProofs (maxSteps:=2000000) (disch:=try exact Dz) only [↓DN,↓kAsg,↓kRet,UP,simprocAttr,LA,hbl,g1,↓kd,↓loop_a,↓loop_b,dK,List.append_assoc,List.cons_append,List.nil_append,AJ,HD,E6,↓aRf,aJh,aDS,aB6,↓G3,tA,tC,↓st_out,↓st_keep,↓st_trim,z0As,z0A,eq_self]
theorem aNz:(env.hint 90).mode = 0:=by kernel_rfl
theorem aF2:(env.hint 70).mode = 0:=by kernel_rfl
theorem aLP {c:List UInt8} (hc:c.length ≤ 2000) (al:Int) (p:Int) (hp:0 ≤ p) (hp2:p ≤ 900000000) :
  ∃ (nx:List (List Int)) (ac:List Bool) (q:Int),1 ≤ nx.length ∧ nx.length ≤ 5 ∧ ac.length = nx.length ∧ (∀ r ∈ nx,r.length = (aE al).length) ∧ p ≤ q ∧ q ≤ p + 50 ∧ (Dw 6 70 [.d (.int .i64 al)] (autD al nx ac) c p q):=by
 obtain ⟨v,v0,v1,_,kd1⟩:=jI hc p 2 hp (by omega)
 by_cases h1:v = 0
 ·subst h1
  obtain ⟨w,hw,kd2⟩:=wD hc [3,2,4,1] (by simp) (by simp) (p + 1) (by omega) (by omega)
  have hw1:1 ≤ w ∧ w ≤ 4:=by simp at hw; omega
  obtain ⟨nx,ac,q,g1,g2,g3,g4,g5,he⟩:=aHx hc al w (s:=w.toNat) (by omega) (by omega) (by omega) (p + 1 + 1) (by omega) (by omega)
  have kd3:=fun {R:Type} {L n:Nat} {hq:H} {k:A → H → Option R} (hn:4 ≤ n) (hL:2 ^ 60 ≤ L) => eF (R:=R) (h:=hq) (k:=k) aNz (by simp [idsL,idsA]) (by simp [autD,idsA,idsL]) (he L n hn hL)
  simp only [ints,List.map_cons,List.map_nil,List.length_cons,List.length_nil,Nat.zero_add,Nat.reduceAdd] at kd2
  refine ⟨nx,ac,q,by omega,by omega,by omega,g3,by omega,by omega,fun R L n hq k hn hL => eF aF2 (by simp [idsL,idsA]) (by simp [autD,idsA,idsL]) ?_⟩
  unfold autD at kd3 ⊢
  clear he g3
  obtain _ | n:=n; omega
  rw [WM]
  simp only [PG,Tryd.f70,SLM,simprocAttr]
  simp -implicitDefEqProofs (maxSteps:=2000000) (disch:=try exact Dz) only [↓DN,↓kAsg,↓kRet,UP,simprocAttr,LA,↓kd1,↓kd2,↓kd3]
 ·obtain ⟨w,hw,kd2⟩:=wD hc [2,3,1,4,5] (by simp) (by simp) (p + 1) (by omega) (by omega)
  have hw1:1 ≤ w ∧ w ≤ 5:=by simp at hw; omega
  obtain ⟨nx,ac,q,g1,g2,g3,g4,g5,he⟩:=Q3 hc al w (s:=w.toNat) (by omega) (by omega) (by omega) (p + 1 + 1) (by omega) (by omega)
  have kd3:=fun {R:Type} {L n:Nat} {hq:H} {k:A → H → Option R} (hn:3 ≤ n) (hL:2 ^ 60 ≤ L) => YI (R:=R) (L:=L) (n:=n) (hq:=hq) (k:=k) hn hL he
  simp only [ints,List.map_cons,List.map_nil,List.length_cons,List.length_nil,Nat.zero_add,Nat.reduceAdd] at kd2
  simp only [autA,autO] at kd3
  refine ⟨nx,ac,q,by omega,by omega,by omega,g3,by omega,by omega,fun R L n hq k hn hL => eF aF2 (by simp [idsL,idsA]) (by simp [autD,idsA,idsL]) ?_⟩
  have hH:Has (rdO c q :: .arr [] 0 0 :: .arr [] 0 0 :: .box [.d (.int .i64 al),.sl 5 0 0 nx.length,.sl 6 0 0 ac.length] :: .arr [.int .i64 2,.int .i64 3,.int .i64 1,.int .i64 4,.int .i64 5] 1 0 :: .vec (aD 7 nx ++ aI 0) 1 0 :: .arr (aB ac) 1 0 :: aJ nx) 5 nx ac:=by
   have:=VF (h:=[rdO c q,.arr [] 0 0,.arr [] 0 0,.box [.d (.int .i64 al),.sl 5 0 0 nx.length,.sl 6 0 0 ac.length],.arr [.int .i64 2,.int .i64 3,.int .i64 1,.int .i64 4,.int .i64 5] 1 0]) (v:=5) (rs:=nx) (ac:=ac) (p:=[]) rfl
   simpa using this
  obtain ⟨h2,st_out,st_keep,st_trim⟩:=VR (n:=nx.length) (m:=ac.length) (al:=al) hH (by omega) rfl rfl
  unfold autD at st_out ⊢
  clear he g3 hH
  obtain _ | n:=n; omega
  rw [WM]
  simp only [PG,Tryd.f70,SLM,simprocAttr]
  simp -implicitDefEqProofs (maxSteps:=2000000) (disch:=try exact Dz) only [↓DN,↓kAsg,↓kRet,UP,simprocAttr,LA,h1,↓kd1,↓kd2,↓kd3,↓st_out,↓st_keep,↓st_trim]
def aAK:Nat → List D → Bool
 | 0,[] => true
 | n + 1,.int .i64 _ :: ds => aAK n ds
 | _,_ => false
def aBr (w:Nat):Nat → List D → Bool
 | 0,[] => true
 | n + 1,.ivs k cs :: ds => aAK k cs && (k == w) && aBr w n ds
 | _,_ => false
def UT:Nat → List D → Bool
 | 0,[] => true
 | n + 1,.bool _ :: ds => UT n ds
 | _,_ => false
def jU:Option (A × H) → Bool
 | some (.tup [.agg [.d (.int .i64 al),.d (.ivs n rs),.d (.ivs m bs)],.d (.bool true)],[]) => aBr (aE al).length n rs && UT m bs && (m == n) && decide (1 ≤ n ∧ n ≤ 12)
 | _ => false
def zA:List (List UInt8):=[[97,98,32,43,49,44,48,32,45,49,44,49],[97,98,32,43,48,44,49,32,43,50,44,49,32,45,50,44,50],[97,99,32,43,49,44,50,32,43,49,44,50,32,45,50,44,50],[98,32,43,49,32,45,49],[97,98,99,32,43,49,44,48,44,50,32,43,50,44,48,44,49,32,45,50,44,50,44,50],[45,32,43],[45,32,45],[97,32,43,49,32,45,48],[97,98,32,43,48,44,49,32,45,48,44,49],[98,99,32,43,49,44,50,32,43,50,44,48,32,45,50,44,50],[97,98,32,43,49,44,50,32,45,49,44,51,32,43,52,44,50,32,45,49,44,51,32,43,52,44,50],[97,98,99,32,43,48,44,49,44,48,32,43,48,44,49,44,50,32,45,50,44,50,44,50]]
theorem aOr:jU (aA env 3000 12 67 [.d (.str [97,98,32,43,49,44,50,32,45,49,44,51,32,43,52,44,50,32,45,49,44,51,32,43,52,44,50])] []) = true:=by kernel_rfl
theorem aQl:jU (aA env 3000 12 67 [.d (.str [45,32,45])] []) = true:=by kernel_rfl
theorem aQX:jU (aA env 3000 12 67 [.d (.str [97,98,99,32,43,49,44,48,44,50,32,43,50,44,48,44,49,32,45,50,44,50,44,50])] []) = true:=by kernel_rfl
theorem aQq:jU (aA env 3000 12 67 [.d (.str [45,32,43])] []) = true:=by kernel_rfl
theorem aOv:jU (aA env 3000 12 67 [.d (.str [97,98,99,32,43,48,44,49,44,48,32,43,48,44,49,44,50,32,45,50,44,50,44,50])] []) = true:=by kernel_rfl
theorem aQj:jU (aA env 3000 12 67 [.d (.str [97,32,43,49,32,45,48])] []) = true:=by kernel_rfl
theorem aQB:jU (aA env 3000 12 67 [.d (.str [97,98,32,43,48,44,49,32,43,50,44,49,32,45,50,44,50])] []) = true:=by kernel_rfl
theorem aQ1:jU (aA env 3000 12 67 [.d (.str [98,32,43,49,32,45,49])] []) = true:=by kernel_rfl
theorem aQ7:jU (aA env 3000 12 67 [.d (.str [97,99,32,43,49,44,50,32,43,49,44,50,32,45,50,44,50])] []) = true:=by kernel_rfl
theorem aQx:jU (aA env 3000 12 67 [.d (.str [97,98,32,43,48,44,49,32,45,48,44,49])] []) = true:=by kernel_rfl
theorem aQn:jU (aA env 3000 12 67 [.d (.str [98,99,32,43,49,44,50,32,43,50,44,48,32,45,50,44,50])] []) = true:=by kernel_rfl
theorem aQR:jU (aA env 3000 12 67 [.d (.str [97,98,32,43,49,44,48,32,45,49,44,49])] []) = true:=by kernel_rfl
theorem aKA:∀ t ∈ zA,jU (aA env 3000 12 67 [.d (.str t)] []) = true:=by
 intro t ht
 simp only [zA,List.mem_cons,List.not_mem_nil,or_false] at ht
 rcases ht with rfl | rfl | rfl | rfl | rfl | rfl | rfl | rfl | rfl | rfl | rfl | rfl
 ·exact aQR
 ·exact aQB
 ·exact aQ7
 ·exact aQ1
 ·exact aQX
 ·exact aQq
 ·exact aQl
 ·exact aQj
 ·exact aQx
 ·exact aQn
 ·exact aOr
 ·exact aOv
section
def More (c1 c2:a7):Prop:=∀ f args h r,c1 f args h = some r → c2 f args h = some r
section
variable {E:Env} {c1 c2:a7} (hc:More c1 c2)
include hc
theorem aAa {hint:FuncId → Hint} {h:H} {f:FuncId} {args:List A} {r:A × H} (he:dO c1 hint h f args = some r):dO c2 hint h f args = some r:=by
 unfold dO at he ⊢
 generalize (hint f).mode = m at *
 have key:∀ (fs:List A) (g:Option (A × H) → Option (A × H)),g none = none → g (c1 f fs []) = some r → g (c2 f fs []) = some r:=by
  intro fs g h0 h1
  cases h2:c1 f fs [] with
  | none => rw [h2,h0] at h1; cases h1
  | some q => rw [h2] at h1; rw [hc _ _ _ _ h2]; exact h1
 match m with
 | 0 => exact hc _ _ _ _ he
 | 1 =>
  simp only at he ⊢
  cases hf:jO h args with
  | none => rw [hf] at he; cases he
  | some q => rw [hf] at he; exact key q.1 (fun o => match o with | some (r,[]) => if lO r then some (r,h) else none | _ => none) rfl he
 | 3 =>
  simp only at he ⊢
  cases hf:jO h args with
  | none => rw [hf] at he; cases he
  | some q => rw [hf] at he; exact key q.1 (fun o => match o with | some (r,h2) => if rM r && h2.all qC then some (mapA (back [] h.length h2.length) r,h ++ h2.map (mapO (back [] h.length h2.length))) else none | none => none) rfl he
 | 2 =>
  simp only at he ⊢
  cases hf:jO h args with
  | none => rw [hf] at he; cases he
  | some q => rw [hf] at he; exact key q.1 (fun o => match o with | some (r,[]) => some (r,q.2) | some (r,h2) => some (mapA (back [] q.2.length h2.length) r,q.2 ++ h2.map (mapO (back [] q.2.length h2.length))) | none => none) rfl he
 | m + 4 =>
  simp only at he ⊢
  cases hf:jO h args with
  | none => rw [hf] at he; cases he
  | some q => rw [hf] at he; exact key q.1 (fun o => match o with | some (r,[]) => some (r,q.2) | some (r,h2) => some (mapA (back [] q.2.length h2.length) r,q.2 ++ h2.map (mapO (back [] q.2.length h2.length))) | none => none) rfl he
theorem aFM {hint:FuncId → Hint} {h:H} {c:A} {args:List A} {r:A × H} (he:iW c1 hint h c args = some r):iW c2 hint h c args = some r:=by
 unfold iW at he ⊢
 split at he
 ·exact aAa hc he
 ·exact aAa hc he
 ·cases he
theorem aEW {h:H} {c:Callee} {tys:List TypeId} {vs:List A} {r:A × H} (he:fE E c1 h c tys vs = some r):fE E c2 h c tys vs = some r:=by
 unfold fE at he ⊢
 split at he
 ·split at he
  ·exact aFM hc he
  ·cases he
 ·exact he
 ·cases he
theorem KJ {thaw:List Nat} {h:H} {o:Oper} {vs:List A} {r:A × H} (he:evOp E c1 thaw h o vs = some r):evOp E c2 thaw h o vs = some r:=by
 unfold evOp at he ⊢
 split at he <;> first | exact aEW hc he | exact he
theorem aBT {thaw:List Nat} {h:H} {o:Oper} {vs:List A} {r:A × H × List Nat × Nat} (he:kV E c1 thaw h o vs = some r):kV E c2 thaw h o vs = some r:=by
 unfold kV at he ⊢
 simp only at he ⊢
 split at he
 ·rename_i a h1 h2
  rw [KJ hc h2]
  exact he
 ·cases he
theorem aHF {thaw:List Nat} {ops:List Oper} {o:Oper} {s:List A} {h:H} {r:List A × H} (he:D4 E c1 thaw ops o s h = some r):D4 E c2 thaw ops o s h = some r:=by
 unfold D4 at he ⊢
 cases hw:sR ops s o with
 | none => rw [hw] at he; cases he
 | some b =>
  rw [hw] at he
  cases b with
  | false => exact he
  | true =>
   simp only at he ⊢
   cases hv:b6 s (opds o.op) with
   | none => rw [hv] at he; cases he
   | some vs =>
    rw [hv] at he
    simp only at he ⊢
    by_cases hi:bV o.op = true
    ·rw [if_pos hi] at he ⊢
     cases hf:kV E c1 thaw h o vs with
     | none => rw [hf] at he; cases he
     | some q => rw [hf] at he; rw [aBT hc hf]; exact he
    ·rw [if_neg hi] at he ⊢
     cases hf:evOp E c1 thaw h o vs with
     | none => rw [hf] at he; cases he
     | some q => rw [hf] at he; rw [KJ hc hf]; exact he
theorem aBv {thaw:List Nat} {ops:List Oper}:∀ {os:List Oper} {s:List A} {h:H} {r:List A × H},wO E c1 thaw ops os s h = some r → wO E c2 thaw ops os s h = some r
 | [],s,h,r,he => he
 | o :: os,s,h,r,he => by
  unfold wO at he ⊢
  cases hs:D4 E c1 thaw ops o s h with
  | none => rw [hs] at he; cases he
  | some q => rw [hs] at he; rw [aHF hc hs]; exact aBv he
theorem aGP {thaw:List Nat} {ops:List Oper} {o:Oper} {s:List A} {h:H} {r:List A × H × Foot} (he:yC E c1 thaw ops o s h = some r):yC E c2 thaw ops o s h = some r:=by
 unfold yC at he ⊢
 cases hw:sR ops s o with
 | none => rw [hw] at he; cases he
 | some b =>
  rw [hw] at he
  cases b with
  | false => exact he
  | true =>
   simp only at he ⊢
   cases hv:b6 s (opds o.op) with
   | none => rw [hv] at he; cases he
   | some vs =>
    rw [hv] at he
    simp only at he ⊢
    by_cases hi:cN o.op = true
    ·rw [if_pos hi] at he ⊢
     cases hf:evOp E c1 thaw h o vs with
     | none => rw [hf] at he; cases he
     | some q => rw [hf] at he; rw [KJ hc hf]; exact he
    ·rw [if_neg hi] at he ⊢
     by_cases hj:m9 o.op = true
     ·rw [if_pos hj] at he ⊢
      cases hf:evOp E c1 thaw h o vs with
      | none => rw [hf] at he; cases he
      | some q => rw [hf] at he; rw [KJ hc hf]; exact he
     rw [if_neg hj] at he ⊢
     cases hf:kV E c1 thaw h o vs with
     | none => rw [hf] at he; cases he
     | some q => rw [hf] at he; rw [aBT hc hf]; exact he
theorem XZ {thaw:List Nat} {ops:List Oper}:∀ {os:List Oper} {s:List A} {h:H} {r:List A × H × List Foot},nI E c1 thaw ops os s h = some r → nI E c2 thaw ops os s h = some r
 | [],s,h,r,he => he
 | o :: os,s,h,r,he => by
  unfold nI at he ⊢
  cases hs:yC E c1 thaw ops o s h with
  | none => rw [hs] at he; cases he
  | some q =>
   rw [hs] at he
   rw [aGP hc hs]
   simp only at he ⊢
   cases h2:nI E c1 thaw ops os q.1 q.2.1 with
   | none => rw [h2] at he; cases he
   | some z => rw [h2] at he; rw [XZ h2]; exact he
theorem aE1 {thaw:List Nat} {ops:Array Oper} {draw:Bool} {s:List A} {h:H} {r:List A × H} (he:n8 E c1 thaw ops draw s h = some r):n8 E c2 thaw ops draw s h = some r:=by
 unfold n8 at he ⊢
 by_cases hd:draw = true
 ·rw [if_pos hd] at he ⊢
  cases ho:nI E c1 thaw ops.toList ops.toList s h with
  | none => rw [ho] at he; cases he
  | some q => rw [ho] at he; rw [XZ hc ho]; exact he
 ·rw [if_neg hd] at he ⊢
  exact aBv hc he
end
theorem XY {b1 b2:List A → H → Option (Exit × List A × H)} (hb:∀ s h r,b1 s h = some r → b2 s h = some r) {nf:Nat} {m:List Bool}:∀ {n1 n2:Nat} {s:List A} {h:H} {r:Exit × List A × H},n1 ≤ n2 → tF b1 nf m n1 s h = some r → tF b2 nf m n2 s h = some r
 | 0,n2,s,h,r,_,he => by simp [tF] at he
 | n1 + 1,0,s,h,r,hn,he => by omega
 | n1 + 1,n2 + 1,s,h,r,hn,he => by
  unfold tF at he ⊢
  cases hs:b1 s h with
  | none => rw [hs] at he; cases he
  | some q =>
   rw [hs] at he
   rw [hb _ _ _ hs]
   obtain ⟨e,s1,h1⟩:=q
   cases e with
   | normal => exact XY hb (by omega) he
   | _ => exact he
theorem aHA {E:Env} {c1 c2:a7} (hc:More c1 c2) {L1 L2 nf:Nat} (hL:L1 ≤ L2) {thaw:List Nat} {live:List Bool}:∀ (c:Code) {s:List A} {h:H} {r:Exit × List A × H},dD E c1 L1 nf thaw live c s h = some r → dD E c2 L2 nf thaw live c s h = some r:=by
 intro c
 induction c with
 | region i ops draw =>
  intro s h r he
  unfold dD at he ⊢
  cases hr:n8 E c1 thaw ops draw s h with
  | none => rw [hr] at he; cases he
  | some q => rw [hr] at he; rw [aE1 hc hr]; exact he
 | seq a b iha ihb =>
  intro s h r he
  unfold dD at he ⊢
  cases ha:dD E c1 L1 nf thaw live a s h with
  | none => rw [ha] at he; cases he
  | some q =>
   rw [ha] at he
   rw [iha ha]
   obtain ⟨e,s1,h1⟩:=q
   cases e with
   | normal => exact ihb he
   | _ => exact he
 | cond x a b iha ihb =>
  intro s h r he
  unfold dD at he ⊢
  cases hv:dG s x with
  | none => rw [hv] at he; cases he
  | some v =>
   rw [hv] at he
   cases v with
   | d y =>
    cases y with
    | bool b =>
     cases b with
     | true => exact iha he
     | false => exact ihb he
    | _ => cases he
   | _ => cases he
 | block i a iha =>
  intro s h r he
  unfold dD at he ⊢
  cases ha:dD E c1 L1 nf thaw live a s h with
  | none => rw [ha] at he; cases he
  | some q => rw [ha] at he; rw [iha ha]; exact he
 | loop a iha =>
  intro s h r he
  unfold dD at he ⊢
  exact XY (fun s h r => iha) hL he
 | _ => intro s h r he; simp only [dD] at he ⊢; first | exact he | cases he
theorem aHU {E:Env} {c1 c2:a7} (hc:More c1 c2) {L1 L2:Nat} (hL:L1 ≤ L2) {f:FuncId} {fn:Func} {c:Code} {args:List A} {h:H} {r:A × H} (he:IG E c1 L1 f fn c args h = some r):IG E c2 L2 f fn c args h = some r:=by
 unfold IG at he ⊢
 split at he
 ·rename_i e s h1 hcd
  rw [aHA hc hL c hcd]
  exact he
 ·cases he
theorem XT {E:Env} {L1 L2:Nat} (hL:L1 ≤ L2):∀ {n1 n2:Nat},n1 ≤ n2 → More (aA E L1 n1) (aA E L2 n2)
 | 0,n2,_ => by intro f args h r he; simp [aA] at he
 | n1 + 1,0,hn => by omega
 | n1 + 1,n2 + 1,hn => by
  intro f args h r he
  have ih:=XT (E:=E) hL (n1:=n1) (n2:=n2) (by omega)
  unfold aA at he ⊢
  cases hp:E.prim f with
  | some g => rw [hp] at he; exact he
  | none =>
   rw [hp] at he
   simp only at he ⊢
   cases hf:E.P.funcs[f]? with
   | none => rw [hf] at he; cases he
   | some fn =>
    rw [hf] at he
    simp only at he ⊢
    cases hb:fn.body with
    | none => rw [hb] at he; cases he
    | some c =>
     rw [hb] at he
     simp only at he ⊢
     by_cases hnm : (fn.name == "runtime.NumGoroutine") = true
     ·rw [if_pos hnm] at he; cases he
     ·rw [if_neg hnm] at he ⊢
      exact aHU ih hL he
end
theorem aA9:∀ (n:Nat) (cs:List D),aAK n cs = true → ∃ l:List Int,l.length = n ∧ cs = ints l
 | 0,[],_ => ⟨[],rfl,rfl⟩
 | 0,_ :: _,h => by simp [aAK] at h
 | n + 1,cs,h => by
  unfold aAK at h
  split at h
  ·exfalso; omega
  ·rename_i m a ds heq
   cases heq
   obtain ⟨l,h1,h2⟩:=aA9 n _ h
   exact ⟨a :: l,by simp [h1],by rw [h2]; rfl⟩
  ·cases h
theorem SY:∀ (n:Nat) (cs:List D),UT n cs = true → ∃ l:List Bool,l.length = n ∧ cs = aB l
 | 0,[],_ => ⟨[],rfl,rfl⟩
 | 0,_ :: _,h => by simp [UT] at h
 | n + 1,cs,h => by
  unfold UT at h
  split at h
  ·exfalso; omega
  ·rename_i m a ds heq
   cases heq
   obtain ⟨l,h1,h2⟩:=SY n _ h
   exact ⟨a :: l,by simp [h1],by rw [h2]; rfl⟩
  ·cases h
theorem aA8 (w:Nat):∀ (n:Nat) (cs:List D),aBr w n cs = true → ∃ l:List (List Int),l.length = n ∧ (∀ r ∈ l,r.length = w) ∧ cs = aC l
 | 0,[],_ => ⟨[],rfl,by simp,rfl⟩
 | 0,_ :: _,h => by simp [aBr] at h
 | n + 1,cs,h => by
  unfold aBr at h
  split at h
  ·exfalso; omega
  ·rename_i m k rs ds heq
   cases heq
   simp only [Bool.and_eq_true,beq_iff_eq] at h
   obtain ⟨r,h3,h4⟩:=aA9 k _ h.1.1
   obtain ⟨l,h1,h2,h5⟩:=aA8 w n _ h.2
   refine ⟨r :: l,by simp [h1],?_,?_⟩
   ·intro x hx
    rcases List.mem_cons.1 hx with rfl | hx
    ·rw [h3,h.1.2]
    ·exact h2 x hx
   ·rw [h5,h4,← h3]
    rfl
  ·cases h
theorem aJ2 {r:Option (A × H)} (h:jU r = true):∃ (al:Int) (nx:List (List Int)) (ac:List Bool),1 ≤ nx.length ∧ nx.length ≤ 12 ∧ ac.length = nx.length ∧ (∀ r ∈ nx,r.length = (aE al).length) ∧ r = some (.tup [autD al nx ac,.d (.bool true)],[]):=by
 unfold jU at h
 split at h
 ·rename_i al n rs m bs
  simp only [Bool.and_eq_true,decide_eq_true_eq,beq_iff_eq] at h
  obtain ⟨⟨⟨h1,h2⟩,h3⟩,h4,h5⟩:=h
  obtain ⟨l,g1,g2,g3⟩:=aA8 _ _ _ h1
  obtain ⟨b,g4,g5⟩:=SY _ _ h2
  subst g3; subst g5
  refine ⟨al,l,b,by omega,by omega,by omega,g2,?_⟩
  unfold autD
  rw [g1,g4]
 ·cases h
theorem V4 {t:List UInt8} (ht:t ∈ zA):∃ (al:Int) (nx:List (List Int)) (ac:List Bool),1 ≤ nx.length ∧ nx.length ≤ 12 ∧ ac.length = nx.length ∧ (∀ r ∈ nx,r.length = (aE al).length) ∧ ∀ (L n:Nat),12 ≤ n → 2 ^ 60 ≤ L → aA env L n 67 [.d (.str t)] [] = some (.tup [autD al nx ac,.d (.bool true)],[]):=by
 obtain ⟨al,nx,ac,h1,h2,h3,h4,h5⟩:=aJ2 (aKA t ht)
 exact ⟨al,nx,ac,h1,h2,h3,h4,fun L n hn hL => XT (by omega) hn _ _ _ _ h5⟩
theorem aF5:(env.hint 47).mode = 0:=by kernel_rfl
theorem aGV {L n:Nat} (hn:1 ≤ n):aA env L n 69 [] [] = some (.d (.ivs 12 (P7 zA)),[]):=by
 obtain _ | n:=n; omega
 kernel_rfl
theorem TR {R:Type} {L n:Nat} {hq:H} {k:A → H → Option R} (hn:1 ≤ n):aL env (aA env L n) hq 69 [] k = k (.d (.ivs 12 (P7 zA))) hq :=
 aV rfl (aGV hn) rfl (.inr rfl)
theorem aKz {c:List UInt8} (hc:c.length ≤ 2000) (p:Int) (hp:0 ≤ p) (hp2:p ≤ 800000000) :
  ∃ (al:Int) (nx:List (List Int)) (ac:List Bool) (q:Int),1 ≤ nx.length ∧ nx.length ≤ 12 ∧ ac.length = nx.length ∧ (∀ r ∈ nx,r.length = (aE al).length) ∧ p ≤ q ∧ q ≤ p + 60 ∧ (Dw 14 47 [] (autD al nx ac) c p q):=by
 obtain ⟨v,v0,v1,_,kd1⟩:=jI hc p 3 hp (by omega)
 by_cases hv:v = 0
 ·subst hv
  obtain ⟨t,ht,kd2⟩:=aRv hc zA (by simp [zA]) (by simp [zA]) (p + 1) (by omega) (by omega)
  have e11:zA.length = 12:=rfl
  rw [e11] at kd2
  obtain ⟨al,nx,ac,g1,g2,g3,g4,he⟩:=V4 ht
  have kc_p:∀ {R:Type} {L n:Nat} {hq:H} {k:A → H → Option R},12 ≤ n → 2 ^ 60 ≤ L → aL env (aA env L n) hq 67 [.d (.str t)] k = k (.tup [autD al nx ac,.d (.bool true)]) hq:=fun hn hL => aV rfl (he _ _ hn hL) rfl (.inr rfl)
  refine ⟨al,nx,ac,p + 1 + 1,g1,g2,g3,g4,by omega,by omega,fun R L n hq k hn hL => eF aF5 rfl (by simp [autD,idsA,idsL]) ?_⟩
  unfold autD at kc_p ⊢
  clear he g4
  obtain _ | n:=n; omega
  rw [YF]
  simp only [PJ,Tryd.f47,SLM,simprocAttr]
  simp -implicitDefEqProofs (maxSteps:=2000000) (disch:=try exact Dz) only [↓DN,↓kAsg,↓kRet,UP,simprocAttr,↓TR,LA,↓kd1,↓kd2,↓kc_p]
 ·obtain ⟨al,_,kd2⟩:=wD hc [3,6,7,5,1,0,2] (by simp) (by simp) (p + 1) (by omega) (by omega)
  obtain ⟨nx,ac,q,g1,g2,g3,g4,g5,g6,kd3⟩:=aLP hc al (p + 1 + 1) (by omega) (by omega)
  simp only [ints,List.map_cons,List.map_nil,List.length_cons,List.length_nil,Nat.zero_add,Nat.reduceAdd] at kd2
  refine ⟨al,nx,ac,q,g1,by omega,g3,g4,by omega,by omega,fun R L n hq k hn hL => eF aF5 rfl (by simp [autD,idsA,idsL]) ?_⟩
  unfold autD at kd3 ⊢
  clear g4
  obtain _ | n:=n; omega
  rw [YF]
  simp only [PJ,Tryd.f47,SLM,simprocAttr]
  simp -implicitDefEqProofs (maxSteps:=2000000) (disch:=try exact Dz) only [↓DN,↓kAsg,↓kRet,UP,simprocAttr,↓TR,LA,hv,↓kd1,↓kd2,↓kd3]
theorem WR {d:List (List Int)}:(aC d).take d.length = aC d:=by
 rw [List.take_of_length_le (by simp [aC])]
theorem aHN {d:List (List Int)} {x y:Int}:aC d ++ [.ivs 2 [.int .i64 x,.int .i64 y]] = aC (d ++ [[x,y]]):=by
 simp [aC,rowD,ints]
theorem aJO {d:List (List Int)}:(aC d).length = d.length:=by simp [aC]
theorem aE2 {c:List UInt8} (hc:c.length ≤ 2000):∀ (j i:Nat) (p:Int) (d:List (List Int)) (bl:List Bool) (hi:i + j = 12) (h1:1 ≤ i) (hd:d.length = i) (hb:bl.length = i) (hr:∀ r ∈ d,r.length = 2) (hp:0 ≤ p) (hp2:p + 2 * j ≤ 1000000000),
  ∃ (d2:List (List Int)) (bl2:List Bool) (q:Int),d2.length = 12 ∧ bl2.length = 12 ∧ (∀ r ∈ d2,r.length = 2) ∧ p ≤ q ∧ q ≤ p + 2 * j ∧ ∀ (R:Type) (L n m:Nat) (k:Exit → List A → H → Option R),2 ≤ n → 2 ^ 60 ≤ L → j < m →
  aU env (aA env L n) L 1 [] (U1 (Z1 (U2 (U1 (Z16 (Z8 (Z4 (Z2 (Z1 ([])))))))))) (uM 0) (Z1 (U1 (Z2 (Z1 (U16 (U8 (U4 (U2 (U1 ([])))))))))) m (.ptr 0 0 0 :: Y1 (.ptr 1 0 0 :: .ptr 2 0 0 :: .d (.int .i64 ((i:Int))) :: Y16 (Y8 (Y4 (Y2 (Y1 ([]))))))) (rdO c p :: .box [.d (.int .i64 0),.sl 3 0 0 0,.sl 4 0 0 0] :: .box [.d (.int .i64 3),.sl 5 0 0 d.length,.sl 6 0 0 bl.length] :: .arr [] 0 0 :: .arr [] 0 0 :: .arr (aC d) 1 0 :: .arr (aB bl) 1 0 :: []) k
  = k (.exit 0) (.ptr 0 0 0 :: Y1 (.ptr 1 0 0 :: .ptr 2 0 0 :: .d (.int .i64 12) :: Y16 (Y8 (Y4 (Y2 (Y1 ([]))))))) (rdO c q :: .box [.d (.int .i64 0),.sl 3 0 0 0,.sl 4 0 0 0] :: .box [.d (.int .i64 3),.sl 5 0 0 d2.length,.sl 6 0 0 bl2.length] :: .arr [] 0 0 :: .arr [] 0 0 :: .arr (aC d2) 1 0 :: .arr (aB bl2) 1 0 :: []):=by
 intro j
 induction j with
 | zero =>
  intro i p d bl hi h1 hd hb hr hp hp2
  obtain rfl:i = 12:=by omega
  refine ⟨d,bl,p,hd,hb,hr,by omega,by omega,fun R L n m k hn hL hm => ?_⟩
  obtain _ | m:=m; omega
  have e12:((12:Nat):Int) = 12:=rfl
  rw [e12]
  rw [CM]
  simp only [C6,Tryd.f50,SLM,simprocAttr]
  simp -implicitDefEqProofs (maxSteps:=2000000) (disch:=try exact Dz) only [↓DN,↓kAsg,↓kRet,UP,simprocAttr,LA,Int.lt_irrefl]
 | succ j ih =>
  intro i p d bl hi h1 hd hb hr hp hp2
  obtain ⟨x,hx,kd1⟩:=wD hc [(i:Int),0,11] (by simp) (by simp) p hp (by omega)
  obtain ⟨v,v0,v1,_,kd2⟩:=jI hc (p + 1) 5 (by omega) (by omega)
  obtain ⟨d2,bl2,q,g1,g2,g3,g4,g5,kd3⟩:=ih (i + 1) (p + 1 + 1) (d ++ [[((i:Int) + 1).tmod 12,x]]) (bl ++ [decide (v = 0)]) (by omega) (by omega) (by simp [hd]) (by simp [hb]) (by
   intro r hrm
   rcases List.mem_append.1 hrm with h | h
   ·exact hr r h
   ·simp at h; subst h; rfl) (by omega) (by omega)
  refine ⟨d2,bl2,q,g1,g2,g3,by omega,by omega,fun R L n m k hn hL hm => ?_⟩
  obtain _ | m:=m; omega
  have kd3':=kd3 R L n m k hn hL (by omega)
  rw [show ((i + 1:Nat):Int) = (i:Int) + 1 by omega] at kd3'
  simp only [List.length_append,List.length_cons,List.length_nil,Nat.zero_add] at kd3'
  have hc1:(i:Int) < 12:=by omega
  have hc2:¬ ((i:Int) = 0):=by omega
  have hb1:(0:Int) ≤ i:=by omega
  have hdl:d.length ≤ 12:=by omega
  have hbl:bl.length ≤ 12:=by omega
  simp only [ints,List.map_cons,List.map_nil,List.length_cons,List.length_nil,Nat.zero_add,Nat.reduceAdd] at kd1
  clear ih kd3 hr g3
  rw [CM]
  simp only [C6,Tryd.f50,SLM,simprocAttr]
  simp -implicitDefEqProofs (maxSteps:=2000000) (disch:=try exact Dz) only [↓DN,↓kAsg,↓kRet,UP,simprocAttr,LA,hc1,hc2,↓kd1,↓kd2,WR,aHN,aJO,d7,iU,DC,List.length_append,↓kd3',Nat.sub_self,List.range'_zero]
theorem WG {c:List UInt8} (hc:c.length ≤ 2000) (p:Int) (hp:0 ≤ p) (hp2:p ≤ 900000000) :
  ∃ (d2:List (List Int)) (bl2:List Bool) (q:Int),d2.length = 12 ∧ bl2.length = 12 ∧ (∀ r ∈ d2,r.length = 2) ∧ p ≤ q ∧ q ≤ p + 40 ∧ ∀ (R:Type) (L n m:Nat) (k:Exit → List A → H → Option R),2 ≤ n → 2 ^ 60 ≤ L → 12 < m →
  aU env (aA env L n) L 1 [] (U1 (Z1 (U2 (U1 (Z16 (Z8 (Z4 (Z2 (Z1 ([])))))))))) (uM 0) (Z1 (U1 (Z2 (Z1 (U16 (U8 (U4 (U2 (U1 ([])))))))))) m (.ptr 0 0 0 :: Y1 (.ptr 1 0 0 :: .ptr 2 0 0 :: .d (.int .i64 0) :: Y16 (Y8 (Y4 (Y2 (Y1 ([]))))))) (rdO c p :: .box [.d (.int .i64 0),.sl 3 0 0 0,.sl 4 0 0 0] :: .box [.d (.int .i64 3),.sl 5 0 0 0,.sl 6 0 0 0] :: .arr [] 0 0 :: .arr [] 0 0 :: .arr [] 0 0 :: .arr [] 0 0 :: []) k
  = k (.exit 0) (.ptr 0 0 0 :: Y1 (.ptr 1 0 0 :: .ptr 2 0 0 :: .d (.int .i64 12) :: Y16 (Y8 (Y4 (Y2 (Y1 ([]))))))) (rdO c q :: .box [.d (.int .i64 0),.sl 3 0 0 0,.sl 4 0 0 0] :: .box [.d (.int .i64 3),.sl 5 0 0 d2.length,.sl 6 0 0 bl2.length] :: .arr [] 0 0 :: .arr [] 0 0 :: .arr (aC d2) 1 0 :: .arr (aB bl2) 1 0 :: []):=by
 obtain ⟨x,hx,kd1⟩:=wD hc [0,0,11] (by simp) (by simp) p hp (by omega)
 obtain ⟨d2,bl2,q,g1,g2,g3,g4,g5,kd3⟩:=aE2 hc 11 1 (p + 1) [[1,x]] [true] (by omega) (by omega) rfl rfl (by simp) (by omega) (by omega)
 refine ⟨d2,bl2,q,g1,g2,g3,by omega,by omega,fun R L n m k hn hL hm => ?_⟩
 obtain _ | m:=m; omega
 have kd3':=kd3 R L n m k hn hL (by omega)
 simp only [ints,List.map_cons,List.map_nil,List.length_cons,List.length_nil,Nat.zero_add,Nat.reduceAdd] at kd1
 have e1:aC [[1,x]] = [.ivs 2 [.int .i64 1,.int .i64 x]]:=rfl
 have e2:aB [true] = [.bool true]:=rfl
 have e3:((1:Nat):Int) = 1:=rfl
 rw [e1,e2,e3] at kd3'
 simp only [List.length_cons,List.length_nil,Nat.zero_add] at kd3'
 clear kd3
 rw [CM]
 simp only [C6,Tryd.f50,SLM,simprocAttr]
 simp -implicitDefEqProofs (maxSteps:=2000000) (disch:=try exact Dz) only [↓DN,↓kAsg,↓kRet,UP,simprocAttr,LA,↓kd1,↓kd3',Nat.sub_self,List.range'_zero]
theorem aIY {c:List UInt8} (hc:c.length ≤ 2000) (p:Int) (hp:0 ≤ p) (hp2:p ≤ 900000000) :
  ∃ (nx:List (List Int)) (ac:List Bool) (q:Int),nx.length = 12 ∧ ac.length = 12 ∧ (∀ r ∈ nx,r.length = (aE 3).length) ∧ p ≤ q ∧ q ≤ p + 40 ∧ ∀ (L n:Nat),3 ≤ n → 2 ^ 60 ≤ L →
  aA env L n 50 [.ptr 0 0 0] [rdO c p] = some (autD 3 nx ac,[rdO c q]):=by
 obtain ⟨d2,bl2,q,g1,g2,g3,g4,g5,kd⟩:=WG hc p hp hp2
 refine ⟨d2,bl2,q,g1,g2,g3,by omega,by omega,fun L n hn hL => ?_⟩
 have loop_a:=fun {R:Type} {n:Nat} {k:Exit → List A → H → Option R} (hn:2 ≤ n) => kd R L n L k hn hL (by omega)
 have hr1:=mZ (l:=d2)
 have hb1:=d7 (l:=bl2)
 unfold autD
 clear kd g3
 obtain _ | n:=n; omega
 rw [aJB]
 simp only [aDC,Tryd.f50,SLM,simprocAttr]
 simp -implicitDefEqProofs (maxSteps:=2000000) (disch:=try exact Dz) only [↓DN,↓kAsg,↓kRet,UP,simprocAttr,LA,↓loop_a,hr1,hb1,WR,Nat.le_refl,iU]
theorem UR {d:List (List Int)} {o o1 o2 o3:O} {p:H} {k:Nat} (h:k = d.length + 3):(aJ d ++ o1 :: o2 :: o3 :: o :: p)[k]? = some o:=by
 subst h
 rw [List.getElem?_append_right (by rw [dK]; omega),dK,Nat.add_sub_cancel_left]
 rfl
theorem CX {t:H} {y1 y2:D} {v w n m gv gw:Nat} {al:Int} {rs:List (List Int)} {ac:List Bool} (k1:rd1 (.box [.d y1,.d y2] :: t) (.sl v gv 0 n) = some (.ivs rs.length (aC rs))) (k2:rd1 (.box [.d y1,.d y2] :: t) (.sl w gw 0 m) = some (.ivs ac.length (aB ac))) (hv:1 ≤ v) (hw:1 ≤ w) :
  ∃ h2,rK 1 false (.box [.d y1,.d y2] :: t) [.agg [.d (.int .i64 al),.sl v gv 0 n,.sl w gw 0 m]] = some ([autD al rs ac],h2) ∧ aF 1099511627776 h2 (gE (List.take 1 h2)) [0] = [0] ∧ List.getD h2 0 default = .box [.d y1,.d y2]:=by
 obtain ⟨ha,e1,i1⟩:=VJ 4 (aDe _) k1
 obtain ⟨hb,e2,i2⟩:=VJ 4 i1 k2
 have h0:hb[0]? = some (.box [.d y1,.d y2]):=by
  rcases i2 0 with h | ⟨_,_,_,h,_⟩ | ⟨_,_,_,_,h,_⟩
  ·rw [h]; rfl
  ·cases h
  ·cases h
 obtain ⟨t2,rfl⟩:∃ t2,hb = .box [.d y1,.d y2] :: t2:=by
  cases hb with
  | nil => simp at h0
  | cons o t2 => simp at h0; exact ⟨t2,by rw [h0]⟩
 refine ⟨.box [.d y1,.d y2] :: t2,?_,rfl,rfl⟩
 have hv1:¬ (v < 1):=by omega
 have hv2:¬ (w < 1):=by omega
 simp only [rK,outA,AQ,outS,hv1,hv2,decide_false,Bool.false_or,Bool.or_false,Bool.or_self,Bool.false_eq_true,if_false]
 rw [show deep = 4 + 1 from rfl,e1]
 simp only [Option.map_some]
 rw [e2]
 rfl
theorem qQ:(env.hint 51).mode = 0:=by kernel_rfl
theorem UA {R:Type} {L n:Nat} {hq:H} {al:Int} {rs:List (List Int)} {ac:List Bool} {k:A → H → Option R} (hs:aX rs) (h1:1 ≤ rs.length) (ha:ac.length ≤ 4294967295) (hn:2 ≤ n) (hL:2 ^ 60 ≤ L) :
  aL env (aA env L n) hq 71 [.agg [.d (.int .i64 al),.d (.ivs rs.length (aC rs)),.d (.ivs ac.length (aB ac))]] k = k (autA hq.length al rs.length ac.length) (hq ++ autO hq.length rs ac):=by
 have he:=aHk hn al rs ac hs h1 ha hL
 have hb:∀ b i,i < rs.length + 2 → back [] b (autO 0 rs ac).length i = some (b + i):=fun b i hi => aGA (by rw [PR]; exact hi)
 have hA:∀ b,mapA (back [] b (autO 0 rs ac).length) (autA 0 al rs.length ac.length) = autA b al rs.length ac.length:=fun b => aGO (by simpa using hb b 0 (by omega)) (by simpa using hb b 1 (by omega))
 have hO:∀ b,(autO 0 rs ac).map (mapO (back [] b (autO 0 rs ac).length)) = autO b rs ac:=fun b => aOd PR
 obtain ⟨o,t,hot⟩:∃ o t,autO 0 rs ac = o :: t:=⟨_,_,rfl⟩
 have hcall:dO (aA env L n) env.hint [] 71 [.agg [.d (.int .i64 al),.d (.ivs rs.length (aC rs)),.d (.ivs ac.length (aB ac))]] = some (autA 0 al rs.length ac.length,autO 0 rs ac):=by
  have h2:=hA 0
  have h3:=hO 0
  have hf:jO [] [.agg [.d (.int .i64 al),.d (.ivs rs.length (aC rs)),.d (.ivs ac.length (aB ac))]] = some ([.agg [.d (.int .i64 al),.d (.ivs rs.length (aC rs)),.d (.ivs ac.length (aB ac))]],[]):=rfl
  rw [hot] at he h2 h3 ⊢
  unfold dO
  rw [FA]
  simp only [hf,he,List.length_nil,List.nil_append,h2,h3]
 have hids:idsL [A.agg [.d (.int .i64 al),.d (.ivs rs.length (aC rs)),.d (.ivs ac.length (aB ac))]] = []:=by simp [idsL,idsA]
 unfold aL
 rw [hids,P4,mK _ hids]
 have hp:pack hq [] = []:=rfl
 rw [hp,hcall]
 simp only [List.length_nil,Nat.zero_le,true_and,closed,List.all_nil,Bool.and_self,if_true,bG,hA,hO]
theorem aGh {c:List UInt8} (hc:c.length ≤ 2000) (al:Int) (nx:List (List Int)) (ac:List Bool) (hs:aX nx) (h1:1 ≤ nx.length) (ha:ac.length ≤ 4294967295) (p t u:Int) (hu0:¬ (u = 0)) (hu1:¬ (u = 1)) (hu2:¬ (u = 2)) (hu3:¬ (u = 3)) (hu4:¬ (u = 4)) (hu5:¬ (u = 5))
  (kd1:(Dw 1 48 [.d (.int .i64 (nx.length))] (.d (.int .i64 t)) c p (p + 1)))
  (kd2:(Dw 1 48 [.d (.int .i64 30)] (.d (.int .i64 u)) c (p + 1) (p + 1 + 1))):(Dw 4 51 [autD al nx ac] (autD al nx ac) c p (p + 1 + 1)):=by
 intro R L n hq k hn hL
 refine eF qQ (by simp [autD,idsA,idsL]) (by simp [autD,idsA,idsL]) ?_
 have hnl:=hs.1
 have kd3:=fun {R:Type} {n:Nat} {hq:H} {k:A → H → Option R} (hn:2 ≤ n) => UA (R:=R) (L:=L) (n:=n) (hq:=hq) (al:=al) (k:=k) hs h1 ha hn hL
 simp only [autA,autO] at kd3
 have hH:Has (rdO c (p + 1 + 1) :: .box [.d (.int .i64 al),.d (.ivs nx.length (aC nx)),.d (.ivs ac.length (aB ac))] :: .arr [] 0 0 :: .arr [] 0 0 :: .box [.d (.int .i64 al),.sl 5 0 0 nx.length,.sl 6 0 0 ac.length] :: .vec (aD 7 nx ++ aI 0) 1 0 :: .arr (aB ac) 1 0 :: (aJ nx ++ .arr [] 0 0 :: .arr [] 0 0 :: .box [.d (.int .i64 al),.sl 5 0 0 nx.length,.sl 6 0 0 ac.length] :: [])) 5 nx ac:=by
  have:=VF (h:=[rdO c (p + 1 + 1),.box [.d (.int .i64 al),.d (.ivs nx.length (aC nx)),.d (.ivs ac.length (aB ac))],.arr [] 0 0,.arr [] 0 0,.box [.d (.int .i64 al),.sl 5 0 0 nx.length,.sl 6 0 0 ac.length]]) (v:=5) (rs:=nx) (ac:=ac) (p:=.arr [] 0 0 :: .arr [] 0 0 :: .box [.d (.int .i64 al),.sl 5 0 0 nx.length,.sl 6 0 0 ac.length] :: []) rfl
  simpa using this
 obtain ⟨h2,st_out,st_keep,st_trim⟩:=VR (n:=nx.length) (m:=ac.length) (al:=al) hH (by omega) rfl rfl
 unfold autD at st_out ⊢
 clear hH
 obtain _ | n:=n; omega
 rw [mN]
 simp only [mL,Tryd.f51,SLM,simprocAttr]
 simp -implicitDefEqProofs (maxSteps:=2000000) (disch:=try exact Dz) only [↓DN,↓kAsg,↓kRet,UP,simprocAttr,LA,hu0,hu1,hu2,hu3,hu4,hu5,↓kd1,↓kd2,↓kd3,dK,List.append_assoc,List.cons_append,List.nil_append,AJ,HD,E6,↓st_out,↓st_keep,↓st_trim]
theorem aIT {c:List UInt8} (hc:c.length ≤ 2000) (al:Int) (nx:List (List Int)) (ac:List Bool) (hs:aX nx) (h1:1 ≤ nx.length) (ha:ac.length ≤ 4294967295) (p t:Int) (hp:0 ≤ p) (hp2:p ≤ 900000000)
  (kd1:(Dw 1 48 [.d (.int .i64 (nx.length))] (.d (.int .i64 t)) c p (p + 1)))
  (kd2:(Dw 1 48 [.d (.int .i64 30)] (.d (.int .i64 0)) c (p + 1) (p + 1 + 1))):∃ al2:Int,(Dw 4 51 [autD al nx ac] (autD al2 nx ac) c p (p + 1 + 1 + 1)):=by
 obtain ⟨al2,_,kd4⟩:=wD hc [64,-1,1,63,0] (by simp) (by simp) (p + 1 + 1) (by omega) (by omega)
 simp only [ints,List.map_cons,List.map_nil,List.length_cons,List.length_nil,Nat.zero_add,Nat.reduceAdd] at kd4
 refine ⟨al2,?_⟩
 intro R L n hq k hn hL
 refine eF qQ (by simp [autD,idsA,idsL]) (by simp [autD,idsA,idsL]) ?_
 have hnl:=hs.1
 have kd3:=fun {R:Type} {n:Nat} {hq:H} {k:A → H → Option R} (hn:2 ≤ n) => UA (R:=R) (L:=L) (n:=n) (hq:=hq) (al:=al) (k:=k) hs h1 ha hn hL
 simp only [autA,autO] at kd3
 have hH:Has (rdO c (p + 1 + 1 + 1) :: .box [.d (.int .i64 al),.d (.ivs nx.length (aC nx)),.d (.ivs ac.length (aB ac))] :: .arr [] 0 0 :: .arr [] 0 0 :: .box [.d (.int .i64 al2),.sl 5 0 0 nx.length,.sl 6 0 0 ac.length] :: .vec (aD 7 nx ++ aI 0) 1 0 :: .arr (aB ac) 1 0 :: (aJ nx ++ .arr [] 0 0 :: .arr [] 0 0 :: .box [.d (.int .i64 al2),.sl 5 0 0 nx.length,.sl 6 0 0 ac.length] :: .arr [.int .i64 64,.int .i64 (-1),.int .i64 1,.int .i64 63,.int .i64 0] 1 0 :: [])) 5 nx ac:=by
  have:=VF (h:=[rdO c (p + 1 + 1 + 1),.box [.d (.int .i64 al),.d (.ivs nx.length (aC nx)),.d (.ivs ac.length (aB ac))],.arr [] 0 0,.arr [] 0 0,.box [.d (.int .i64 al2),.sl 5 0 0 nx.length,.sl 6 0 0 ac.length]]) (v:=5) (rs:=nx) (ac:=ac) (p:=.arr [] 0 0 :: .arr [] 0 0 :: .box [.d (.int .i64 al2),.sl 5 0 0 nx.length,.sl 6 0 0 ac.length] :: .arr [.int .i64 64,.int .i64 (-1),.int .i64 1,.int .i64 63,.int .i64 0] 1 0 :: []) rfl
  simpa using this
 obtain ⟨h2,st_out,st_keep,st_trim⟩:=VR (n:=nx.length) (m:=ac.length) (al:=al2) hH (by omega) rfl rfl
 have hnum:(O.box [.d (.int .i64 al),.d (.ivs nx.length (aC nx)),.d (.ivs ac.length (aB ac))] :: .arr [] 0 0 :: .arr [] 0 0 :: .box [.d (.int .i64 0),.sl 2 0 0 0,.sl 3 0 0 0] :: .vec (aD 7 nx ++ aI 0) 1 0 :: .arr (aB ac) 1 0 :: (aJ nx ++ [.arr [] 0 0,.arr [] 0 0,.box [.d (.int .i64 al),.sl 5 0 0 nx.length,.sl 6 0 0 ac.length],.arr [.int .i64 64,.int .i64 (-1),.int .i64 1,.int .i64 63,.int .i64 0] 1 0]))[nx.length + 3 + 1 + 1 + 1 + 1 + 1 + 1]? = some (.arr [.int .i64 64,.int .i64 (-1),.int .i64 1,.int .i64 63,.int .i64 0] 1 0):=by
  simp only [List.getElem?_cons_succ]
  exact UR rfl
 unfold autD at st_out ⊢
 clear hH
 obtain _ | n:=n; omega
 rw [mN]
 simp only [mL,Tryd.f51,SLM,simprocAttr]
 simp -implicitDefEqProofs (maxSteps:=2000000) (disch:=try exact Dz) only [↓DN,↓kAsg,↓kRet,UP,simprocAttr,LA,↓kd1,↓kd2,↓kd3,↓kd4,UR,dK,List.append_assoc,List.cons_append,List.nil_append,AJ,HD,E6,↓st_out,↓st_keep,↓st_trim]
abbrev Str:=List UInt8
section
section
variable {L n:Nat} {h:H}
end
end
theorem TH {f:A → Option D}:∀ {cs:List A} {ds:List D},cs.length = ds.length → (∀ (i:Nat) (a:A) (x:D),cs[i]? = some a → ds[i]? = some x → f a = some x) → jY f cs = some ds
 | [],[],_,_ => rfl
 | [],_ :: _,h,_ => by cases h
 | _ :: _,[],h,_ => by cases h
 | a :: cs,x :: ds,h,hf => by
  have h0:=hf 0 a x rfl rfl
  have h1:=TH (f:=f) (cs:=cs) (ds:=ds) (by simpa using h) (fun i b y hb hy => hf (i + 1) b y (by simpa using hb) (by simpa using hy))
  simp only [jY,h0,h1]
theorem G6 {h:H} {v gv n:Nat} {cs:List A} {rs:List (List Int)} (hv:h[v]? = some (.vec cs 1 gv)) (hc:jY (rd0 h) cs = some (aC rs)) (hn:n = rs.length):rd1 h (.sl v gv 0 n) = some (.ivs rs.length (aC rs)):=by
 subst hn
 have hl:=O0 hc
 have hr:(aC rs).length = rs.length:=by simp [aC]
 simp only [rd1,hv,hc,Option.map_some,List.drop_zero,Nat.zero_add,Nat.mul_one]
 rw [if_pos ⟨trivial,by omega⟩]
 congr 2
 exact List.take_of_length_le (by omega)
theorem xT {h:H} {v gv n:Nat} {ac:List Bool} (hv:h[v]? = some (.arr (aB ac) 1 gv)) (hn:n = ac.length):rd1 h (.sl v gv 0 n) = some (.ivs ac.length (aB ac)):=by
 subst hn
 have hr:(aB ac).length = ac.length:=by simp [aB]
 simp only [rd1,rd0,hv,List.drop_zero,Nat.zero_add,Nat.mul_one]
 rw [if_pos ⟨trivial,by omega⟩]
 congr 2
 exact List.take_of_length_le (by omega)
theorem aGy {rs:List (List Int)} {i:Nat} {x:D} (h:(aC rs)[i]? = some x):∃ r,rs[i]? = some r ∧ x = rowD r:=by
 unfold aC at h
 rw [List.getElem?_map] at h
 cases hr:rs[i]? with
 | none => rw [hr] at h; cases h
 | some r => rw [hr] at h; simp at h; exact ⟨r,rfl,h.symm⟩
theorem Y5:∀ {rs:List (List Int)} {b i:Nat} {a:A},(aD b rs)[i]? = some a → ∃ r,rs[i]? = some r ∧ a = .sl (b + i) 0 0 r.length
 | [],b,i,a,h => by simp [aD] at h
 | r :: rs,b,0,a,h => by simp [aD] at h; exact ⟨r,rfl,h.symm⟩
 | r :: rs,b,i + 1,a,h => by
  simp only [aD,List.getElem?_cons_succ] at h
  obtain ⟨q,h1,h2⟩:=Y5 h
  exact ⟨q,by simpa using h1,by rw [h2]; congr 1; omega⟩
theorem zB:∀ {h:H} {i:Nat} {o:O},wgt (h.set i o) ≤ wgt h + (mG o).length
 | [],i,o => by simp [wgt]
 | x :: h,0,o => by
  have e1:=r9 [o] h
  have e2:=r9 [x] h
  have e3:wgt [o] = (mG o).length:=by cases o <;> simp [wgt,mG]
  simp only [List.set_cons_zero]
  simp only [List.singleton_append] at e1 e2
  omega
 | x :: h,i + 1,o => by
  have ih:=zB (h:=h) (i:=i) (o:=o)
  have e1:=r9 [x] (h.set i o)
  have e2:=r9 [x] h
  simp only [List.set_cons_succ]
  simp only [List.singleton_append] at e1 e2
  omega
theorem uN {o:O} {h:H}:wgt (o :: h) = (mG o).length + wgt h:=by
 cases o <;> simp [wgt,mG]
theorem YZ {o:O} {h:H}:wgt (h ++ [o]) = wgt h + (mG o).length:=by
 rw [r9,uN]
 rfl
structure Cpy (y z:O) (al:Int) (nx:List (List Int)) (ac:List Bool) (N:Nat) (T1 T2 T3:H):Prop where
 hN:N = nx.length + 6
 h1:y :: .arr [] 0 0 :: .arr [] 0 0 :: z :: autO 5 nx ac = T1
 l1:T1.length = N
 h2:T1 ++ [.arr [] 0 0,.arr [] 0 0,.box [.d (.int .i64 0),.sl (N + 1) 0 0 0,.sl (N + 1 + 1) 0 0 0]] = T2
 b2:T2[N + 1 + 1]? = some (.box [.d (.int .i64 0),.sl (N + 1) 0 0 0,.sl (N + 1 + 1) 0 0 0])
 h3:T2.set (N + 1 + 1) (.box [.d (.int .i64 al),.sl 5 0 0 nx.length,.sl 6 0 0 ac.length]) = T3
 l3:T3.length = N + 1 + 1 + 1
 t3:T3[3]? = some z
 t4:T3[4]? = some (.vec (aD 7 nx ++ aI 0) 1 0)
 t5:T3[5]? = some (.arr (aB ac) 1 0)
 tr:∀ (i:Nat) (r:List Int),nx[i]? = some r → T3[i + 6]? = some (.arr (ints r) 1 0)
 tb:T3[N + 1 + 1]? = some (.box [.d (.int .i64 al),.sl 5 0 0 nx.length,.sl 6 0 0 ac.length])
 e3:T3 = y :: .arr [] 0 0 :: .arr [] 0 0 :: z :: .vec (aD 7 nx ++ aI 0) 1 0 :: .arr (aB ac) 1 0 :: (aJ nx ++ [.arr [] 0 0,.arr [] 0 0,.box [.d (.int .i64 al),.sl 5 0 0 nx.length,.sl 6 0 0 ac.length]])
 wg:wgt T3 ≤ nx.length + 8 + (mG y).length + (mG z).length
theorem xU (y z:O) (al:Int) (nx:List (List Int)) (ac:List Bool):∃ (N:Nat) (T1 T2 T3:H),Cpy y z al nx ac N T1 T2 T3:=by
 have l1:(y :: .arr [] 0 0 :: .arr [] 0 0 :: z :: autO 5 nx ac).length = nx.length + 6:=by simp [PR]
 generalize hT1:y :: .arr [] 0 0 :: .arr [] 0 0 :: z :: autO 5 nx ac = T1 at l1
 have low:∀ (l:H) (i:Nat),i < nx.length + 6 → (T1 ++ l)[i]? = T1[i]?:=fun l i hi => List.getElem?_append_left (by omega)
 have g2:∀ a b c:O,(T1 ++ [a,b,c])[nx.length + 6 + 1 + 1]? = some c:=fun a b c => by rw [← l1]; exact aOp
 have g3:∀ a b c d:O,(T1 ++ [a,b,c]).set (nx.length + 6 + 1 + 1) d = T1 ++ [a,b,d]:=fun a b c d => by rw [← l1]; exact aNd
 refine ⟨nx.length + 6,T1,_,_,rfl,hT1,l1,rfl,g2 _ _ _,rfl,by rw [List.length_set]; simp [l1],?_,?_,?_,?_,?_,?_,?_⟩
 ·rw [g3,low _ _ (by omega),← hT1]; rfl
 ·rw [g3,low _ _ (by omega),← hT1]; rfl
 ·rw [g3,low _ _ (by omega),← hT1]; rfl
 ·intro i r hr
  have hi:i < nx.length:=(List.getElem?_eq_some_iff.1 hr).1
  rw [g3,low _ _ (by omega),← hT1]
  simp only [autO,List.getElem?_cons_succ]
  have:=G8 (p:=[]) hr
  rwa [List.append_nil] at this
 ·rw [g3,g2]
 ·rw [g3,← hT1]
  simp [autO]
 ·rw [g3,r9,← hT1,uN,uN,uN,uN,aQ9]
  simp [wgt,mG,idsL,idsA]
  omega
theorem hY {T T':H} {i:Nat} {o:O} (h:T.set i o = T') (hi:i < T.length):T'.length = T.length ∧ T'[i]? = some o ∧ ∀ j,j ≠ i → T'[j]? = T[j]?:=by
 subst h
 exact ⟨List.length_set,List.getElem?_set_self hi,fun j hj => List.getElem?_set_ne (fun e => hj e.symm)⟩
theorem qL {T T':H} {o:O} (h:T ++ [o] = T'):T'.length = T.length + 1 ∧ T'[T.length]? = some o ∧ ∀ j,j < T.length → T'[j]? = T[j]?:=by
 subst h
 exact ⟨by simp,by simp,fun j hj => List.getElem?_append_left hj⟩
theorem PO {h:H} {nx:List (List Int)} (hr:∀ (i:Nat) (r:List Int),nx[i]? = some r → h[i + 7]? = some (.arr (ints r) 1 0)):jY (rd0 h) (aD 7 nx ++ aI 0) = some (aC nx):=by
 refine TH (by rw [List.length_append,mO]; simp [aI,aC]) ?_
 intro i a x ha hx
 obtain ⟨r,hr1,rfl⟩:=aGy hx
 have hn:aI 0 = []:=rfl
 rw [hn,List.append_nil] at ha
 obtain ⟨r2,hr2,rfl⟩:=Y5 ha
 rw [hr1] at hr2
 cases hr2
 refine aGI ?_
 rw [Nat.add_comm]
 exact hr i r hr1
theorem aNZ {h:H} {b g:Nat} {r:List Int} (hr:h[b]? = some (.arr (ints r) 1 g)):rd0 h (.sl b g 0 r.length) = some (rowD r):=by
 have hl:(ints r).length = r.length:=by simp [ints]
 simp only [rd0,hr,List.drop_zero,Nat.zero_add,Nat.mul_one]
 rw [if_pos ⟨trivial,by omega⟩]
 unfold rowD
 congr 2
 exact List.take_of_length_le (by omega)
theorem aGi {h:H} {nx:List (List Int)} {t g:Nat} {row:List Int} (ht:t < nx.length) (hr:∀ (i:Nat) (r:List Int),i ≠ t → nx[i]? = some r → h[i + 7]? = some (.arr (ints r) 1 0)) (h1:h[t + 7]? = some (.arr (ints row) 1 g)) {len:Nat} (hl:len = row.length) :
  jY (rd0 h) ((aD 7 nx ++ aI 0).take t ++ [.sl (t + 7) g 0 len] ++ (aD 7 nx ++ aI 0).drop (t + 1)) = some (aC (nx.set t row)):=by
 subst hl
 have hn:aI 0 = []:=rfl
 rw [hn,List.append_nil]
 have hlr:(aD 7 nx).length = nx.length:=mO _ _
 have e:(aD 7 nx).take t ++ [.sl (t + 7) g 0 row.length] ++ (aD 7 nx).drop (t + 1) = (aD 7 nx).set t (.sl (t + 7) g 0 row.length):=by
  rw [List.set_eq_take_append_cons_drop,if_pos (by omega)]
  simp
 rw [e]
 refine TH (by simp [hlr,aC]) ?_
 intro i a x ha hx
 obtain ⟨r,hr1,rfl⟩:=aGy hx
 rw [List.getElem?_set] at ha hr1
 by_cases hi:t = i
 ·subst hi
  rw [if_pos rfl,if_pos (by omega)] at ha
  rw [if_pos rfl,if_pos ht] at hr1
  cases ha
  cases hr1
  exact aNZ h1
 ·rw [if_neg hi] at ha hr1
  obtain ⟨r2,hr2,rfl⟩:=Y5 ha
  rw [hr1] at hr2
  cases hr2
  refine aGI ?_
  rw [Nat.add_comm]
  exact hr i r (fun e => hi e.symm) hr1
theorem X8 {h:H} {i:Nat} {cs:List D} {e g:Nat} (h1:h[i]? = some (.arr cs e g)):aF aG h [i] [] = [i]:=by
 rw [show aG = 1099511627774 + 1 + 1 from rfl,qY,xR]
 simp [List.getD_eq_getElem?_getD,h1,xR]
theorem aHH {h:H} {i j:Nat} {cs ds:List D} {e g e2 g2:Nat} (h1:h[i]? = some (.arr cs e g)) (h2:h[j]? = some (.arr ds e2 g2)) (hne:i ≠ j):aF aG h [i,j] [] = [i,j]:=by
 rw [show aG = 1099511627773 + 1 + 1 + 1 from rfl,qY]
 have hne':¬ j = i:=fun e => hne e.symm
 simp [List.getD_eq_getElem?_getD,h1]
 rw [qY]
 simp [List.getD_eq_getElem?_getD,h2,hne',xR]
theorem aQo {i j:Nat} (hne:i ≠ j):aK [i,j] i = some 0 ∧ aK [i,j] j = some 1:=by
 have hne':¬ i = j:=hne
 simp [aK,hne']
theorem aEy {E:Env} {call:a7} {thaw:List Nat} {dst:Option Tmp} {args:Array Operand} {t e:TypeId} {h:H} {id id2 g g2 e0 len n2:Nat} {cs src:List D} (he:bB E.P t = some e) (hce:E.P.cellsOf e = 1) (hel:bJ E.P e = true)
  (h1:h[id]? = some (.arr cs e0 g)) (he0:e0 = 0 ∨ e0 = 1) (h2:h[id2]? = some (.arr src 1 g2)) (hn2:n2 = src.length) (hlen:len ≤ cs.length) (hmax:len + n2 ≤ bW) (hne:id ≠ id2) :
  memD E call thaw dst (.call ⟨.builtin .append,args,#[t,t]⟩) h [.sl id g 0 len,.sl id2 g2 0 n2] = some (.sl id (g + 1) 0 (len + n2),h.set id (.arr (cs.take len ++ src) 1 (g + 1)),{ ids:=[id,id2],ro:=false,wr:=[id] }):=by
 subst hn2
 have hids:idsL [A.sl id g 0 len,A.sl id2 g2 0 src.length] = [id,id2]:=rfl
 obtain ⟨hk,hk2⟩:=aQo hne
 have hord:=aHH h1 h2 hne
 have hcl:closed h [id,id2] [id,id2] = true:=by simp [closed,h1,h2]
 have p1:=kZ (h:=h) (bE hk) h1
 have p2:=kZ (h:=h) (bE hk2) h2
 have key:=HJ (E:=E) (call:=call) (thaw:=thaw) (dst:=dst) (op:=.call ⟨.builtin .append,args,#[t,t]⟩) (h:=h) (vs:=[A.sl id g 0 len,A.sl id2 g2 0 src.length]) (a:=.sl 0 (g + 1) 0 (len + src.length)) (a2:=.sl id (g + 1) 0 (len + src.length)) (o:=.arr (cs.take len ++ src) 1 (g + 1)) (o2:=.arr (cs.take len ++ src) 1 (g + 1)) (id:=id) (k:=0) (ord:=[id,id2]) (by rw [hids]; exact hord) (by rw [hids]; exact hcl) hk rfl ?_ rfl rfl
 ·rw [key]
  rfl
 ·have hu:E.P.underlying t = some (.slice e):=by
   unfold bB at he
   split at he
   ·rename_i hq; cases he; exact hq
   ·cases he
  have hv:GV (pack h [id,id2]) 0 = false:=by simp only [GV,p1,mapO]
  have hb:wQ (pack h [id,id2]) (.sl 1 g2 0 src.length) = false:=by simp only [wQ,GV,p2,mapO]
  have hs:cX (pack h [id,id2]) 1 (.sl 1 g2 0 src.length) = some (src.length,src):=by
   simp [cX,p2,mapO]
  simp only [aH,mapA,hk,hk2,evOp,gC,fE,c4,jZ,hv,hb,Bool.false_eq_true,if_false,nF,he,hel,if_true,hce,hs,p1,mapO,true_and,Nat.mul_one,hlen,hmax,and_self,and_true,he0,hu]
theorem aHy {E:Env} {call:a7} {thaw:List Nat} {dst:Option Tmp} {x y:Operand} {t:TypeId} {h:H} {id g off esz:Nat} {cs:List D} {z:D} (ht:E.P.cellsOf t = 1) (hi:(E.P.info? t).isSome = true) (hz:cV (.d z) = true)
  (h1:h[id]? = some (.arr cs esz g)) (hoff:off + 1 ≤ cs.length) :
  memD E call thaw dst (.store t x y) h [.ptr id g off,.d z] = some (.d .undef,h.set id (.arr (bS cs off [z]) esz g),{ ids:=[id],ro:=false,wr:=[id] }):=by
 have hids:idsL [A.ptr id g off,A.d z] = [id]:=rfl
 have hk:aK [id] id = some 0:=by simp [aK]
 have hord:=X8 h1
 have hcl:closed h [id] [id] = true:=by simp [closed,h1]
 have p1:=kZ (h:=h) (bE hk) h1
 have key:=HJ (E:=E) (call:=call) (thaw:=thaw) (dst:=dst) (op:=.store t x y) (h:=h) (vs:=[A.ptr id g off,A.d z]) (a:=.d .undef) (a2:=.d .undef) (o:=.arr (bS cs off [z]) esz g) (o2:=.arr (bS cs off [z]) esz g) (id:=id) (k:=0) (ord:=[id]) (by rw [hids]; exact hord) (by rw [hids]; exact hcl) hk rfl ?_ rfl rfl
 ·rw [key]
  rfl
 ·have hf:frzL (pack h [id]) [A.d z] = some ([z],pack h [id]):=by
   unfold frzL
   simp only [hZ]
   have:frz deep (pack h [id]) (.d z) = some (z,pack h [id]):=rfl
   rw [this]
  simp only [aH,mapA,hk,evOp,gC,two,mP,aO,List.length_cons,List.length_nil,Nat.zero_add,ht,hi,List.all_cons,List.all_nil,hz,Bool.and_self,and_self,if_true,p1,mapO,hf,hoff,Option.map_some]
theorem aHp {E:Env} {call:a7} {thaw:List Nat} {dst:Option Tmp} {x y:Operand} {t:TypeId} {h:H} {id id2 off g g2 o len:Nat} {cs:List A} (ht:E.P.cellsOf t = 1) (hi:(E.P.info? t).isSome = true)
  (h1:h[id]? = some (.vec cs 1 g2)) (hoff:off + 1 ≤ cs.length) (ok1:Okay h id) (ok2:Okay h id2) (hw:2 + wgt h ≤ 1099511627776) :
  memD E call thaw dst (.store t x y) h [.ptr id g2 off,.sl id2 g o len] = some (.d .undef,h.set id (.vec (bS cs off [.sl id2 g o len]) 1 g2),{ ids:=aF aG h [id,id2] [],ro:=false,wr:=aF aG h [id,id2] [] }):=by
 have hids:idsL [A.ptr id g2 off,A.sl id2 g o len] = [id,id2]:=rfl
 obtain ⟨c1,c2,c3⟩:=SQ (h:=h) (ids:=[id,id2]) (by intro i hi; simp at hi; rcases hi with rfl | rfl; exact ok1; exact ok2) (by simpa using hw)
 obtain ⟨ord,hord⟩:∃ ord,aF aG h [id,id2] [] = ord:=⟨_,rfl⟩
 rw [hord] at c1 c2 c3 ⊢
 obtain ⟨k,hk⟩:=dF (c2 id (by simp))
 obtain ⟨k2,hk2⟩:=dF (c2 id2 (by simp))
 have p1:=kZ (h:=h) (bE hk) h1
 have bk:∀ xs:List A,(∀ i ∈ idsL xs,i ∈ ord) → aH (fun (k:Nat) => ord[k]?) (aH (aK ord) xs) = xs:=by
  intro xs hx
  rw [pD (q:=fun i => (aK ord i).bind fun k => ord[k]?) (fun _ => rfl)]
  apply jC
  intro i hi
  obtain ⟨j,hj⟩:=dF (hx i hi)
  simp only [hj,Option.bind_some]
  exact bE hj
 have hcs:∀ i ∈ idsL cs,i ∈ ord:=by
  have:=c3 id (c2 id (by simp))
  simpa only [kids,h1] using this
 have split_cs:∀ q:Nat,(∀ i ∈ idsL (cs.take q),i ∈ ord) ∧ (∀ i ∈ idsL (cs.drop q),i ∈ ord):=by
  intro q
  have:=List.take_append_drop q cs
  constructor
  ·intro i hi
   refine hcs i ?_
   rw [← this,bY,List.mem_append]; exact .inl hi
  ·intro i hi
   refine hcs i ?_
   rw [← this,bY,List.mem_append]; exact .inr hi
 have hnew:∀ i ∈ idsL (bS cs off [.sl id2 g o len]),i ∈ ord:=by
  intro i hi
  unfold bS at hi
  rw [bY,bY,List.mem_append,List.mem_append] at hi
  rcases hi with (hi | hi) | hi
  ·exact (split_cs _).1 i hi
  ·simp [idsL,idsA] at hi; subst hi; exact c2 i (by simp)
  ·exact (split_cs _).2 i hi
 have hmr:bS (aH (aK ord) cs) off [.sl k2 g o len] = aH (aK ord) (bS cs off [.sl id2 g o len]):=by
  unfold bS
  rw [eQ,eQ,GS,OZ]
  simp only [aH,mapA,hk2,List.length_cons,List.length_nil]
 have key:=HJ (E:=E) (call:=call) (thaw:=thaw) (dst:=dst) (op:=.store t x y) (h:=h) (vs:=[A.ptr id g2 off,A.sl id2 g o len]) (a:=.d .undef) (a2:=.d .undef) (o:=.vec (aH (aK ord) (bS cs off [.sl id2 g o len])) 1 g2) (o2:=.vec (bS cs off [.sl id2 g o len]) 1 g2) (id:=id) (k:=k) (ord:=ord) (by rw [hids]; exact hord) (by rw [hids]; exact c1) hk rfl ?_ (by simp only [mapA]) (by simp only [mapO,bk _ hnew])
 ·rw [key]
  rfl
 ·have hoff2:off + 1 ≤ (aH (aK ord) cs).length:=by rw [EJ]; exact hoff
  simp only [aH,mapA,hk,hk2,evOp,gC,two,mP,aO,List.length_cons,List.length_nil,Nat.zero_add,ht,hi,List.all_cons,List.all_nil,cV,Bool.and_self,and_self,if_true,p1,mapO,hoff2,true_and,hmr,Option.map_some]
theorem aL2 {E:Env} {call:a7} {thaw:List Nat} {dst:Option Tmp} {t e:TypeId} {x:Operand} {h:H} {id g len:Nat} {cs:List D} {es:Nat} (hk:GZ thaw dst = true) (he:bB E.P t = some e) (hz:bN E.P e = some (.d .nils)) (hce:E.P.cellsOf e = 1) (hel:bJ E.P e = true)
  (h1:h[id]? = some (.arr cs es g)) :
  memD E call thaw dst (.buildSlice t 1 #[(0,x)]) h [.sl id g 0 len] = some (.sl h.length 0 0 1,h ++ [.vec [.sl id g 0 len] 1 0],{ ids:=[id,h.length],ro:=false }):=by
 have hids:idsL [A.sl id g 0 len] = [id]:=rfl
 have hp:aK [id] id = some 0:=by simp [aK]
 have hord:=X8 h1
 have hcl:closed h [id] [id] = true:=by simp [closed,h1]
 have hlt:id < h.length:=(List.getElem?_eq_some_iff.1 h1).1
 have hgd:h.getD id default = .arr cs es g:=by rw [List.getD_eq_getElem?_getD,h1]; rfl
 have hpk:pack h [id] = [.arr cs es g]:=by simp only [pack,List.map_cons,List.map_nil,hgd,mapO]
 have hev:evOp E call thaw (pack h [id]) (gC dst (.buildSlice t 1 #[(0,x)])) (aH (aK [id]) [A.sl id g 0 len]) = some (.sl 1 0 0 1,[.arr cs es g,.vec [.sl 0 g 0 len] 1 0]):=by
  rw [hpk]
  simp only [aH,mapA,hp,evOp,gC,hk,if_true,tV,he,hz,hel,hce,aO]
  rfl
 have hset:h.set id (.arr cs es g) = h:=by
  obtain ⟨_,h2⟩:=List.getElem?_eq_some_iff.1 h1
  rw [← h2,List.set_getElem_self]
 unfold memD
 rw [hids,show aG = 1099511627776 from rfl] at *
 rw [hord]
 simp only [box,hev,hcl,List.length_cons,List.length_nil,fN,Bool.false_and,Bool.false_eq_true,if_false]
 have hb1:back [id] h.length 2 0 = some id:=rfl
 have hb2:back [id] h.length 2 1 = some h.length:=by simp [back]
 simp [mapA,aH,bG,mapO,hb1,hb2,hset,wrOf]
def AN (bad:List (Nat × Nat)) (ops:List Oper) (cs:List Foot):Bool :=
 let b:=GF ops []
 let f:=fun (c:Foot) => c.ro && c.ids.isEmpty
 (List.range cs.length).all fun j => (List.range j).all fun i => (b.getD j 0).testBit i || (f (cs.getD i {}) || f (cs.getD j {}) || ((cs.getD i {}).ro && (cs.getD j {}).ro)) || bad.contains (i,j)
theorem aFU {a b:Foot} (h:(a.ro && a.ids.isEmpty) = true):oX a b = false ∧ oX b a = false:=by
 simp only [Bool.and_eq_true,List.isEmpty_iff] at h
 obtain ⟨ha,hi⟩:=h
 unfold oX
 rw [ha,hi,aOc]
 simp
theorem O2 {ops:List Oper} {cs:List Foot} (bad:List (Nat × Nat)) (hm:AN bad ops cs = true) (hb:∀ p ∈ bad,oX (cs.getD p.1 {}) (cs.getD p.2 {}) = false):mH ops cs = true:=by
 refine aLQ ?_
 unfold AN at hm
 unfold qK
 simp only [List.all_eq_true,List.mem_range,Bool.or_eq_true] at hm ⊢
 intro j hj i hi
 rcases hm j hj i hi with (h | h) | h
 ·exact .inl h
 ·refine .inr ?_
  rcases h with (h | h) | h
  ·rw [(aFU h).1]; rfl
  ·rw [(aFU h).2]; rfl
  ·simp only [Bool.and_eq_true] at h
   rw [aN2 h.1 h.2]; rfl
 ·have hp:=hb (i,j) (by simpa using h)
  exact .inr (by rw [hp]; rfl)
theorem CF {R:Type} {L n:Nat} {o1 o2 o3 o4 o5:O} {al:Int} {rs:List (List Int)} {ac:List Bool} {T1:H} {k:A → H → Option R} (hT:o2 :: o3 :: o4 :: o5 :: autO 5 rs ac = T1) (hs:aX rs) (h1:1 ≤ rs.length) (ha:ac.length ≤ 4294967295) (hn:2 ≤ n) (hL:2 ^ 60 ≤ L) :
  aL env (aA env L n) [o1,o2,o3,o4,o5] 71 [.agg [.d (.int .i64 al),.d (.ivs rs.length (aC rs)),.d (.ivs ac.length (aB ac))]] k = k (.agg [.d (.int .i64 al),.sl 5 0 0 rs.length,.sl 6 0 0 ac.length]) (o1 :: T1):=by
 rw [UA hs h1 ha hn hL,← hT]
 rfl
theorem aIV {c:List UInt8} (hc:c.length ≤ 2000) (al:Int) (nx:List (List Int)) (ac:List Bool) (hs:aX nx) (h1:1 ≤ nx.length) (ha:ac.length ≤ 4294967290) (p t:Int)
  (kd1:(Dw 1 48 [.d (.int .i64 (nx.length))] (.d (.int .i64 t)) c p (p + 1)))
  (kd2:(Dw 1 48 [.d (.int .i64 30)] (.d (.int .i64 1)) c (p + 1) (p + 1 + 1))):(Dw 4 51 [autD al nx ac] (autD al nx (ac ++ [true])) c p (p + 1 + 1)):=by
 intro R L n hq k hn hL
 refine eF qQ (by simp [autD,idsA,idsL]) (by simp [autD,idsA,idsL]) ?_
 have hnl:=hs.1
 obtain ⟨N,T1,T2,T3,w⟩:=xU (.box [.d (.int .i64 al),.d (.ivs nx.length (aC nx)),.d (.ivs ac.length (aB ac))]) (.box [.d (.int .i64 0),.sl 2 0 0 0,.sl 3 0 0 0]) al nx ac
 have kd3:=fun {R:Type} {n:Nat} {o1:O} {k:A → H → Option R} (hn:2 ≤ n) => CF (R:=R) (L:=L) (n:=n) (o1:=o1) (al:=al) (k:=k) w.h1 hs h1 (by omega) hn hL
 obtain ⟨hN,hT1,l1,h2,b2,h3,l3,t3,t4,t5,tr,tb,e3,wg⟩:=w
 clear e3
 clear hT1
 obtain ⟨T4,h4⟩:∃ T,T3 ++ [.arr [.bool true] 1 0] = T:=⟨_,rfl⟩
 obtain ⟨l4,g4,k4⟩:=qL h4
 rw [l3] at l4 g4 k4
 have t45:=k4 5 (by omega)
 rw [t5] at t45
 obtain ⟨T5,h5⟩:∃ T,T4.set 5 (.arr (aB (ac ++ [true])) 1 1) = T:=⟨_,rfl⟩
 obtain ⟨l5,g5,k5⟩:=hY h5 (by omega)
 obtain ⟨T6,h6⟩:∃ T,T5.set (N + 1 + 1) (.box [.d (.int .i64 al),.sl 5 0 0 nx.length,.sl 6 1 0 (ac.length + 1)]) = T:=⟨_,rfl⟩
 obtain ⟨l6,g6,k6⟩:=hY h6 (by omega)
 obtain ⟨T7,h7⟩:∃ T,T6.set 3 (.box [.d (.int .i64 al),.sl 5 0 0 nx.length,.sl 6 1 0 (ac.length + 1)]) = T:=⟨_,rfl⟩
 obtain ⟨l7,g7,k7⟩:=hY h7 (by omega)
 have t5b:T5[N + 1 + 1]? = some (.box [.d (.int .i64 al),.sl 5 0 0 nx.length,.sl 6 0 0 ac.length]):=by rw [k5 _ (by omega),k4 _ (by omega),tb]
 have t63:T6[3]? = some (.box [.d (.int .i64 0),.sl 2 0 0 0,.sl 3 0 0 0]):=by rw [k6 _ (by omega),k5 _ (by omega),k4 _ (by omega),t3]
 have look:∀ i,i ≠ 5 → i ≠ 3 → i < N + 2 → T7[i]? = T3[i]?:=fun i i5 i3 hi => by rw [k7 _ i3,k6 _ (by omega),k5 _ i5,k4 _ (by omega)]
 have hv:rd1 (rdO c (p + 1 + 1) :: T7) (.sl 5 0 0 nx.length) = some (.ivs nx.length (aC nx)):=by
  refine G6 (cs:=aD 7 nx ++ aI 0) ?_ (PO fun i r hr => ?_) rfl
  ·rw [List.getElem?_cons_succ,look 4 (by omega) (by omega) (by omega),t4]
  ·have hi:i < nx.length:=(List.getElem?_eq_some_iff.1 hr).1
   rw [show i + 7 = i + 6 + 1 by omega,List.getElem?_cons_succ,look _ (by omega) (by omega) (by omega)]
   exact tr i r hr
 have hw:rd1 (rdO c (p + 1 + 1) :: T7) (.sl 6 1 0 (ac.length + 1)) = some (.ivs (ac ++ [true]).length (aB (ac ++ [true]))):=by
  refine xT ?_ (by simp)
  rw [List.getElem?_cons_succ,k7 _ (by omega),k6 _ (by omega),g5]
 obtain ⟨h2',st_out,st_keep,st_trim⟩:=CX (al:=al) hv hw (by omega) (by omega)
 unfold autD at st_out ⊢
 clear hv hw look k4 k5 k6 k7 tr h1 l4 l5 l6 l7 hN
 obtain _ | n:=n; omega
 rw [mN]
 simp only [mL,Tryd.f51,SLM,simprocAttr]
 simp -implicitDefEqProofs (maxSteps:=2000000) (disch:=try exact Dz) only [↓DN,↓kAsg,↓kRet,UP,simprocAttr,LA,↓kd1,↓kd2,↓kd3,l1,h2,b2,h3,l3,t3,t4,t5,tb,h4,g4,t45,h5,t5b,h6,g6,t63,h7,g7,d7,iU,DC,yH,vX,↓st_out,↓st_keep,↓st_trim,List.append_assoc,List.cons_append,List.nil_append]
theorem aFI {c:List UInt8} (hc:c.length ≤ 2000) (al:Int) (nx:List (List Int)) (ac:List Bool) (hs:aX nx) (h1:1 ≤ nx.length) (ha:ac.length ≤ 4294967290) (p t:Int)
  (kd1:(Dw 1 48 [.d (.int .i64 (nx.length))] (.d (.int .i64 t)) c p (p + 1)))
  (kd2:(Dw 1 48 [.d (.int .i64 30)] (.d (.int .i64 4)) c (p + 1) (p + 1 + 1))):(Dw 4 51 [autD al nx ac] (autD al [] []) c p (p + 1 + 1)):=by
 intro R L n hq k hn hL
 refine eF qQ (by simp [autD,idsA,idsL]) (by simp [autD,idsA,idsL]) ?_
 have hnl:=hs.1
 obtain ⟨N,T1,T2,T3,w⟩:=xU (.box [.d (.int .i64 al),.d (.ivs nx.length (aC nx)),.d (.ivs ac.length (aB ac))]) (.box [.d (.int .i64 0),.sl 2 0 0 0,.sl 3 0 0 0]) al nx ac
 have kd3:=fun {R:Type} {n:Nat} {o1:O} {k:A → H → Option R} (hn:2 ≤ n) => CF (R:=R) (L:=L) (n:=n) (o1:=o1) (al:=al) (k:=k) w.h1 hs h1 (by omega) hn hL
 obtain ⟨hN,hT1,l1,h2,b2,h3,l3,t3,t4,t5,tr,tb,e3,wg⟩:=w
 clear e3
 clear hT1
 obtain ⟨T4,h4⟩:∃ T,T3 ++ [.vec [] 1 0] = T:=⟨_,rfl⟩
 obtain ⟨l4,g4,k4⟩:=qL h4
 rw [l3] at l4 g4 k4
 obtain ⟨T5,h5⟩:∃ T,T4.set (N + 1 + 1) (.box [.d (.int .i64 al),.sl (N + 4) 0 0 0,.sl 6 0 0 ac.length]) = T:=⟨_,rfl⟩
 obtain ⟨l5,g5,k5⟩:=hY h5 (by omega)
 obtain ⟨T6,h6⟩:∃ T,T5 ++ [.arr [] 1 0] = T:=⟨_,rfl⟩
 obtain ⟨l6,g6,k6⟩:=qL h6
 rw [l5,l4] at l6 g6 k6
 obtain ⟨T7,h7⟩:∃ T,T6.set (N + 1 + 1) (.box [.d (.int .i64 al),.sl (N + 4) 0 0 0,.sl (N + 5) 0 0 0]) = T:=⟨_,rfl⟩
 obtain ⟨l7,g7,k7⟩:=hY h7 (by omega)
 obtain ⟨T8,h8⟩:∃ T,T7.set 3 (.box [.d (.int .i64 al),.sl (N + 4) 0 0 0,.sl (N + 5) 0 0 0]) = T:=⟨_,rfl⟩
 obtain ⟨l8,g8,k8⟩:=hY h8 (by omega)
 have t4b:T4[N + 1 + 1]? = some (.box [.d (.int .i64 al),.sl 5 0 0 nx.length,.sl 6 0 0 ac.length]):=by rw [k4 _ (by omega),tb]
 have t6b:T6[N + 1 + 1]? = some (.box [.d (.int .i64 al),.sl (N + 4) 0 0 0,.sl 6 0 0 ac.length]):=by rw [k6 _ (by omega),g5]
 have t73:T7[3]? = some (.box [.d (.int .i64 0),.sl 2 0 0 0,.sl 3 0 0 0]):=by rw [k7 _ (by omega),k6 _ (by omega),k5 _ (by omega),k4 _ (by omega),t3]
 rw [l4] at l5
 have hv:rd1 (rdO c (p + 1 + 1) :: T8) (.sl (N + 4) 0 0 0) = some (.ivs ([]:List (List Int)).length (aC [])):=by
  refine G6 (cs:=[]) ?_ rfl rfl
  rw [List.getElem?_cons_succ,k8 _ (by omega),k7 _ (by omega),k6 _ (by omega),k5 _ (by omega),g4]
 have hw:rd1 (rdO c (p + 1 + 1) :: T8) (.sl (N + 5) 0 0 0) = some (.ivs ([]:List Bool).length (aB [])):=by
  refine xT ?_ rfl
  rw [List.getElem?_cons_succ,k8 _ (by omega),k7 _ (by omega),g6]
  rfl
 obtain ⟨h2',st_out,st_keep,st_trim⟩:=CX (al:=al) hv hw (by omega) (by omega)
 unfold autD at st_out ⊢
 clear hv hw k4 k5 k6 k7 k8 tr h1 l4 l6 l7 l8 hN
 obtain _ | n:=n; omega
 rw [mN]
 simp only [mL,Tryd.f51,SLM,simprocAttr]
 simp -implicitDefEqProofs (maxSteps:=2000000) (disch:=try exact Dz) only [↓DN,↓kAsg,↓kRet,UP,simprocAttr,LA,↓kd1,↓kd2,↓kd3,l1,h2,b2,h3,l3,t3,t4,t5,tb,h4,g4,t4b,h5,l5,t6b,h6,g6,t73,h7,g7,h8,g8,yH,vX,dZ,eN,↓st_out,↓st_keep,↓st_trim,List.append_assoc,List.cons_append,List.nil_append]
theorem aHe {c:List UInt8} (hc:c.length ≤ 2000) (al:Int) (nx:List (List Int)) (ac:List Bool) (hs:aX nx) (h1:1 ≤ nx.length) (ha:ac.length ≤ 4294967290) (p:Int) (t:Nat) (ht:t < nx.length) (hr:(nx.getD t []).length ≤ 4294967290)
  (kd1:(Dw 1 48 [.d (.int .i64 (nx.length))] (.d (.int .i64 ((t:Int)))) c p (p + 1)))
  (kd2:(Dw 1 48 [.d (.int .i64 30)] (.d (.int .i64 2)) c (p + 1) (p + 1 + 1))):(Dw 4 51 [autD al nx ac] (autD al (nx.set t (nx.getD t [] ++ [0])) ac) c p (p + 1 + 1)):=by
 intro R L n hq k hn hL
 refine eF qQ (by simp [autD,idsA,idsL]) (by simp [autD,idsA,idsL]) ?_
 have hnl:=hs.1
 obtain ⟨N,T1,T2,T3,w⟩:=xU (.box [.d (.int .i64 al),.d (.ivs nx.length (aC nx)),.d (.ivs ac.length (aB ac))]) (.box [.d (.int .i64 0),.sl 2 0 0 0,.sl 3 0 0 0]) al nx ac
 have kd3:=fun {R:Type} {n:Nat} {o1:O} {k:A → H → Option R} (hn:2 ≤ n) => CF (R:=R) (L:=L) (n:=n) (o1:=o1) (al:=al) (k:=k) w.h1 hs h1 (by omega) hn hL
 obtain ⟨hN,hT1,l1,h2,b2,h3,l3,t3,t4,t5,tr,tb,e3,wg⟩:=w
 clear e3
 simp only [mG,idsL,idsA,List.length_nil,List.length_cons,List.nil_append,List.cons_append,Nat.zero_add] at wg
 clear hT1
 have hrow:nx[t]? = some (nx.getD t []):=by rw [List.getD_eq_getElem?_getD,List.getElem?_eq_getElem ht]; rfl
 generalize hrw:nx.getD t [] = row at hrow hr ⊢
 have hd7:((aD 7 nx ++ aI 0).drop t).head? = some (.sl (t + 7) 0 0 row.length):=by rw [AD ht,hrw]
 obtain ⟨T4,h4⟩:∃ T,T3 ++ [.arr [.int .i64 0] 1 0] = T:=⟨_,rfl⟩
 obtain ⟨l4,g4,k4⟩:=qL h4
 rw [l3] at l4 g4 k4
 have w4:wgt T4 = wgt T3:=by rw [← h4,YZ]; simp [mG]
 obtain ⟨T5,h5⟩:∃ T,T4.set (t + 6) (.arr (ints (row ++ [0])) 1 1) = T:=⟨_,rfl⟩
 obtain ⟨l5,g5,k5⟩:=hY h5 (by omega)
 have w5:wgt T5 ≤ wgt T4:=by rw [← h5]; have:=zB (h:=T4) (i:=t + 6) (o:=.arr (ints (row ++ [0])) 1 1); simpa [mG] using this
 obtain ⟨T6,h6⟩:∃ T,T5.set 4 (.vec ((aD 7 nx ++ aI 0).take t ++ [.sl (t + 7) 1 0 (row.length + 1)] ++ (aD 7 nx ++ aI 0).drop (t + 1)) 1 0) = T:=⟨_,rfl⟩
 obtain ⟨l6,g6,k6⟩:=hY h6 (by omega)
 obtain ⟨T7,h7⟩:∃ T,T6.set 3 (.box [.d (.int .i64 al),.sl 5 0 0 nx.length,.sl 6 0 0 ac.length]) = T:=⟨_,rfl⟩
 obtain ⟨l7,g7,k7⟩:=hY h7 (by omega)
 have t6b:T6[N + 1 + 1]? = some (.box [.d (.int .i64 al),.sl 5 0 0 nx.length,.sl 6 0 0 ac.length]):=by rw [k6 _ (by omega),k5 _ (by omega),k4 _ (by omega),tb]
 have t63:T6[3]? = some (.box [.d (.int .i64 0),.sl 2 0 0 0,.sl 3 0 0 0]):=by rw [k6 _ (by omega),k5 _ (by omega),k4 _ (by omega),t3]
 have t44:T4[4]? = some (.vec (aD 7 nx ++ aI 0) 1 0):=by rw [k4 _ (by omega),t4]
 have t54:T5[4]? = some (.vec (aD 7 nx ++ aI 0) 1 0):=by rw [k5 _ (by omega),t44]
 have t4r:T4[t + 6]? = some (.arr (ints row) 1 0):=by rw [k4 _ (by omega)]; exact tr _ _ hrow
 have hlv:(aD 7 nx ++ aI 0).length = nx.length:=by rw [List.length_append,mO]; rfl
 have st_app:∀ {call:a7} {thaw:List Nat} {dst:Option Tmp} {args:Array Operand},memD env call thaw dst (.call ⟨.builtin .append,args,#[32,32]⟩) (rdO c (p + 1 + 1) :: T4) [.sl (t + 7) 0 0 row.length,.sl (N + 1 + 1 + 1 + 1) 0 0 1] = some (.sl (t + 7) 1 0 (row.length + 1),rdO c (p + 1 + 1) :: T5,{ ids:=[t + 7,N + 1 + 1 + 1 + 1],ro:=false,wr:=[t + 7] }):=by
  intro call thaw dst args
  rw [aEy (e:=3) (e0:=1) (n2:=1) (cs:=ints row) (src:=[.int .i64 0]) rfl dY (by kernel_rfl) (by rw [show t + 7 = t + 6 + 1 by omega,List.getElem?_cons_succ]; exact t4r) (.inr rfl) (by rw [List.getElem?_cons_succ]; exact g4) rfl (by simp [ints]) (by unfold bW; omega) (by omega)]
  rw [show t + 7 = t + 6 + 1 by omega,List.set_cons_succ,← h5,show (ints row).take row.length ++ [D.int .i64 0] = ints (row ++ [0]) by rw [List.take_of_length_le (by simp [ints])]; simp [ints]]
 have ok_row:∀ (i:Nat) (r:List Int),nx[i]? = some r → Okay (rdO c (p + 1 + 1) :: T5) (i + 7):=by
  intro i r hr
  have hi:i < nx.length:=(List.getElem?_eq_some_iff.1 hr).1
  by_cases e:i = t
  ·subst e
   have hg:(rdO c (p + 1 + 1) :: T5)[i + 7]? = some (.arr (ints (row ++ [0])) 1 1):=by rw [show i + 7 = i + 6 + 1 by omega,List.getElem?_cons_succ]; exact g5
   exact .mk _ _ hg (by simp) (by rw [bX hg]; simp)
  ·have hg:(rdO c (p + 1 + 1) :: T5)[i + 7]? = some (.arr (ints r) 1 0):=by rw [show i + 7 = i + 6 + 1 by omega,List.getElem?_cons_succ,k5 _ (by omega),k4 _ (by omega)]; exact tr _ _ hr
   exact .mk _ _ hg (by simp) (by rw [bX hg]; simp)
 have ok5:Okay (rdO c (p + 1 + 1) :: T5) 5:=by
  have hg:(rdO c (p + 1 + 1) :: T5)[5]? = some (.vec (aD 7 nx ++ aI 0) 1 0):=t54
  refine .mk _ _ hg (by simp) ?_
  intro q hq
  have:kids (rdO c (p + 1 + 1) :: T5) 5 = List.range' 7 nx.length:=by simp only [kids,hg,bY,dE,eH,List.append_nil]
  rw [this,List.mem_range'_1] at hq
  obtain ⟨z,rfl⟩:∃ z,q = z + 7:=⟨q - 7,by omega⟩
  exact ok_row z (nx[z]'(by omega)) (List.getElem?_eq_getElem _)
 obtain ⟨o2,ho2⟩:∃ o,o = aF aG (rdO c (p + 1 + 1) :: T5) [5,t + 7] []:=⟨_,rfl⟩
 have st_sto:∀ {call:a7} {thaw:List Nat} {dst:Option Tmp} {x y:Operand},memD env call thaw dst (.store 32 x y) (rdO c (p + 1 + 1) :: T5) [.ptr 5 0 t,.sl (t + 7) 1 0 (row.length + 1)] = some (.d .undef,rdO c (p + 1 + 1) :: T6,{ ids:=o2,ro:=false,wr:=o2 }):=by
  intro call thaw dst x y
  rw [aHp (by kernel_rfl) (by kernel_rfl) (h:=rdO c (p + 1 + 1) :: T5) (id:=5) (id2:=t + 7) (cs:=aD 7 nx ++ aI 0) t54 (by omega) ok5 (ok_row t row hrow) (by rw [uN]; simp only [mG,idsL,idsA,List.nil_append,List.length_nil]; omega),← ho2]
  rw [List.set_cons_succ]
  unfold bS
  rw [← h6]
  rfl
 have hclash:∀ (ops:List Oper),AN [(1,8),(4,8),(6,8),(7,8),(1,9),(8,10),(9,10)] ops [{},{ ids:=[N + 2 + 1],ro:=true },{},{},{ ids:=[N + 2 + 1],ro:=true },{},{ ids:=[5],ro:=true },{ ids:=[5],ro:=true },{ ids:=[N + 1 + 1 + 1 + 1],ro:=false },{ ids:=[t + 7,N + 1 + 1 + 1 + 1],ro:=false,wr:=[t + 7] },{ ids:=[5],ro:=true },{ ids:=o2,ro:=false,wr:=o2 }] = true → mH ops [{},{ ids:=[N + 2 + 1],ro:=true },{},{},{ ids:=[N + 2 + 1],ro:=true },{},{ ids:=[5],ro:=true },{ ids:=[5],ro:=true },{ ids:=[N + 1 + 1 + 1 + 1],ro:=false },{ ids:=[t + 7,N + 1 + 1 + 1 + 1],ro:=false,wr:=[t + 7] },{ ids:=[5],ro:=true },{ ids:=o2,ro:=false,wr:=o2 }] = true:=by
  intro ops hm
  refine O2 _ hm ?_
  intro q hq
  simp only [List.mem_cons,List.not_mem_nil,or_false] at hq
  rcases hq with rfl | rfl | rfl | rfl | rfl | rfl | rfl <;> simp [oX] <;> omega
 have hv:rd1 (rdO c (p + 1 + 1) :: T7) (.sl 5 0 0 nx.length) = some (.ivs (nx.set t (row ++ [0])).length (aC (nx.set t (row ++ [0])))):=by
  refine G6 (cs:=(aD 7 nx ++ aI 0).take t ++ [.sl (t + 7) 1 0 (row.length + 1)] ++ (aD 7 nx ++ aI 0).drop (t + 1)) ?_ ?_ (by simp)
  ·rw [List.getElem?_cons_succ,k7 _ (by omega),g6]
  ·refine aGi ht (fun i r hi hr => ?_) ?_ (by simp)
   ·have hil:i < nx.length:=(List.getElem?_eq_some_iff.1 hr).1
    rw [show i + 7 = i + 6 + 1 by omega,List.getElem?_cons_succ,k7 _ (by omega),k6 _ (by omega),k5 _ (by omega),k4 _ (by omega)]
    exact tr i r hr
   ·rw [show t + 7 = t + 6 + 1 by omega,List.getElem?_cons_succ,k7 _ (by omega),k6 _ (by omega),g5]
 have hw:rd1 (rdO c (p + 1 + 1) :: T7) (.sl 6 0 0 ac.length) = some (.ivs ac.length (aB ac)):=by
  refine xT ?_ rfl
  rw [List.getElem?_cons_succ,k7 _ (by omega),k6 _ (by omega),k5 _ (by omega),k4 _ (by omega),t5]
 obtain ⟨h2',st_out,st_keep,st_trim⟩:=CX (al:=al) hv hw (by omega) (by omega)
 have hlen:(nx.set t (row ++ [0])).length = nx.length:=by simp
 unfold autD at st_out ⊢
 rw [hlen] at st_out ⊢
 have hti:(t:Int) < nx.length:=by omega
 have ht0:(0:Int) ≤ t:=by omega
 have hn0:(0:Int) < nx.length:=by omega
 clear hv hw k4 k5 k6 k7 tr h1 l4 l6 l7 ok_row ok5 w4 w5 wg ho2 hrow hlv
 obtain _ | n:=n; omega
 rw [mN]
 simp only [mL,Tryd.f51,SLM,simprocAttr]
 simp -implicitDefEqProofs (maxSteps:=2000000) (disch:=first | assumption | (refine Shut.mk ?_; (show mH _ _ = true; with_unfolding_all exact hclash _ (by kernel_rfl))) | (refine Shut.mk ?_; kernel_rfl) | omega | (simp only [GT]; done) | (simp only [LN] <;> omega) | fail) only [↓DN,↓kAsg,↓kRet,UP,simprocAttr,LA,↓kd1,↓kd2,↓kd3,l1,h2,b2,h3,l3,t3,t4,t5,tb,h4,t44,hti,ht0,hn0,hd7,t54,↓st_app,↓st_sto,t6b,t63,h7,g7,Int.toNat_natCast,dZ,eN,dL,dY,↓st_out,↓st_keep,↓st_trim,List.append_assoc,List.cons_append,List.nil_append]
theorem aJw {c:List UInt8} (hc:c.length ≤ 2000) (al:Int) (nx:List (List Int)) (ac:List Bool) (hs:aX nx) (h1:1 ≤ nx.length) (ha:ac.length ≤ 4294967290) (p:Int) (t:Nat) (ht:t < nx.length) (hr:(nx.getD t []).length = 0)
  (kd1:(Dw 1 48 [.d (.int .i64 (nx.length))] (.d (.int .i64 ((t:Int)))) c p (p + 1)))
  (kd2:(Dw 1 48 [.d (.int .i64 30)] (.d (.int .i64 3)) c (p + 1) (p + 1 + 1))):(Dw 4 51 [autD al nx ac] (autD al nx ac) c p (p + 1 + 1)):=by
 intro R L n hq k hn hL
 refine eF qQ (by simp [autD,idsA,idsL]) (by simp [autD,idsA,idsL]) ?_
 have hnl:=hs.1
 obtain ⟨N,T1,T2,T3,w⟩:=xU (.box [.d (.int .i64 al),.d (.ivs nx.length (aC nx)),.d (.ivs ac.length (aB ac))]) (.box [.d (.int .i64 0),.sl 2 0 0 0,.sl 3 0 0 0]) al nx ac
 have kd3:=fun {R:Type} {n:Nat} {o1:O} {k:A → H → Option R} (hn:2 ≤ n) => CF (R:=R) (L:=L) (n:=n) (o1:=o1) (al:=al) (k:=k) w.h1 hs h1 (by omega) hn hL
 obtain ⟨hN,hT1,l1,h2,b2,h3,l3,t3,t4,t5,tr,tb,e3,wg⟩:=w
 clear e3
 clear hT1
 have hd7:((aD 7 nx ++ aI 0).drop t).head? = some (.sl (t + 7) 0 0 0):=by rw [AD ht,hr]
 obtain ⟨T7,h7⟩:∃ T,T3.set 3 (.box [.d (.int .i64 al),.sl 5 0 0 nx.length,.sl 6 0 0 ac.length]) = T:=⟨_,rfl⟩
 obtain ⟨l7,g7,k7⟩:=hY h7 (by omega)
 have hv:rd1 (rdO c (p + 1 + 1) :: T7) (.sl 5 0 0 nx.length) = some (.ivs nx.length (aC nx)):=by
  refine G6 (cs:=aD 7 nx ++ aI 0) ?_ (PO fun i r hr => ?_) rfl
  ·rw [List.getElem?_cons_succ,k7 _ (by omega),t4]
  ·rw [show i + 7 = i + 6 + 1 by omega,List.getElem?_cons_succ,k7 _ (by omega)]
   exact tr i r hr
 have hw:rd1 (rdO c (p + 1 + 1) :: T7) (.sl 6 0 0 ac.length) = some (.ivs ac.length (aB ac)):=by
  refine xT ?_ rfl
  rw [List.getElem?_cons_succ,k7 _ (by omega),t5]
 obtain ⟨h2',st_out,st_keep,st_trim⟩:=CX (al:=al) hv hw (by omega) (by omega)
 unfold autD at st_out ⊢
 have hti:(t:Int) < nx.length:=by omega
 have ht0:(0:Int) ≤ t:=by omega
 have hn0:(0:Int) < nx.length:=by omega
 clear hv hw k7 tr h1 l7 wg
 obtain _ | n:=n; omega
 rw [mN]
 simp only [mL,Tryd.f51,SLM,simprocAttr]
 simp -implicitDefEqProofs (maxSteps:=2000000) (disch:=try exact Dz) only [↓DN,↓kAsg,↓kRet,UP,simprocAttr,LA,↓kd1,↓kd2,↓kd3,l1,h2,b2,h3,l3,t3,t4,t5,tb,hti,ht0,hn0,hd7,h7,g7,Int.toNat_natCast,dZ,eN,dL,dY,↓st_out,↓st_keep,↓st_trim,List.append_assoc,List.cons_append,List.nil_append]
theorem aHm {c:List UInt8} (hc:c.length ≤ 2000) (al:Int) (nx:List (List Int)) (ac:List Bool) (hs:aX nx) (h1:1 ≤ nx.length) (ha:ac.length ≤ 4294967290) (p:Int) (hp:0 ≤ p) (hp2:p ≤ 900000000) (t:Nat) (ht:t < nx.length) (j:Nat) (hj:j < (nx.getD t []).length)
  (kd1:(Dw 1 48 [.d (.int .i64 (nx.length))] (.d (.int .i64 ((t:Int)))) c p (p + 1)))
  (kd2:(Dw 1 48 [.d (.int .i64 30)] (.d (.int .i64 3)) c (p + 1) (p + 1 + 1)))
  (kd4:(Dw 1 48 [.d (.int .i64 (((nx.getD t []).length:Int)))] (.d (.int .i64 ((j:Int)))) c (p + 1 + 1) (p + 1 + 1 + 1))):∃ v:Int,(Dw 4 51 [autD al nx ac] (autD al (nx.set t ((nx.getD t []).set j v)) ac) c p (p + 1 + 1 + 1 + 1)):=by
 obtain ⟨v,_,kd5⟩:=wD hc [-1,nx.length,(nx.length:Int) - 1,0] (by simp) (by simp) (p + 1 + 1 + 1) (by omega) (by omega)
 simp only [ints,List.map_cons,List.map_nil,List.length_cons,List.length_nil,Nat.zero_add,Nat.reduceAdd] at kd5
 refine ⟨v,?_⟩
 intro R L n hq k hn hL
 refine eF qQ (by simp [autD,idsA,idsL]) (by simp [autD,idsA,idsL]) ?_
 have hnl:=hs.1
 obtain ⟨N,T1,T2,T3,w⟩:=xU (.box [.d (.int .i64 al),.d (.ivs nx.length (aC nx)),.d (.ivs ac.length (aB ac))]) (.box [.d (.int .i64 0),.sl 2 0 0 0,.sl 3 0 0 0]) al nx ac
 have kd3:=fun {R:Type} {n:Nat} {o1:O} {k:A → H → Option R} (hn:2 ≤ n) => CF (R:=R) (L:=L) (n:=n) (o1:=o1) (al:=al) (k:=k) w.h1 hs h1 (by omega) hn hL
 obtain ⟨hN,hT1,l1,h2,b2,h3,l3,t3,t4,t5,tr,tb,e3,wg⟩:=w
 clear e3
 clear hT1
 have hrow:nx[t]? = some (nx.getD t []):=by rw [List.getD_eq_getElem?_getD,List.getElem?_eq_getElem ht]; rfl
 have hrl:=tB hs ht
 generalize hrw:nx.getD t [] = row at *
 have hd7:((aD 7 nx ++ aI 0).drop t).head? = some (.sl (t + 7) 0 0 row.length):=by rw [AD ht,hrw]
 obtain ⟨T4,h4⟩:∃ T,T3 ++ [.arr [.int .i64 (-1),.int .i64 nx.length,.int .i64 ((nx.length:Int) - 1),.int .i64 0] 1 0] = T:=⟨_,rfl⟩
 obtain ⟨l4,g4,k4⟩:=qL h4
 rw [l3] at l4 g4 k4
 have g4D:T4.getD (N + 1 + 1 + 1) O.void = .arr [.int .i64 (-1),.int .i64 nx.length,.int .i64 ((nx.length:Int) - 1),.int .i64 0] 1 0:=by rw [List.getD_eq_getElem?_getD,g4]; rfl
 have t4r:T4[t + 6]? = some (.arr (ints row) 1 0):=by rw [k4 _ (by omega)]; exact tr _ _ hrow
 obtain ⟨T5,h5⟩:∃ T,T4.set (t + 6) (.arr (ints (row.set j v)) 1 0) = T:=⟨_,rfl⟩
 obtain ⟨l5,g5,k5⟩:=hY h5 (by omega)
 obtain ⟨T7,h7⟩:∃ T,T5.set 3 (.box [.d (.int .i64 al),.sl 5 0 0 nx.length,.sl 6 0 0 ac.length]) = T:=⟨_,rfl⟩
 obtain ⟨l7,g7,k7⟩:=hY h7 (by omega)
 have t3r:T3[t + 6]? = some (.arr (ints row) 1 0):=tr _ _ hrow
 have t5b:T5[N + 1 + 1]? = some (.box [.d (.int .i64 al),.sl 5 0 0 nx.length,.sl 6 0 0 ac.length]):=by rw [k5 _ (by omega),k4 _ (by omega),tb]
 have t53:T5[3]? = some (.box [.d (.int .i64 0),.sl 2 0 0 0,.sl 3 0 0 0]):=by rw [k5 _ (by omega),k4 _ (by omega),t3]
 have hset:bS (ints row) j [.int .i64 v] = ints (row.set j v):=by
  unfold bS
  exact aGb hj
 have st_sto:∀ {call:a7} {thaw:List Nat} {dst:Option Tmp} {x y:Operand},memD env call thaw dst (.store 3 x y) (rdO c (p + 1 + 1 + 1 + 1) :: T4) [.ptr (t + 7) 0 j,.d (.int .i64 v)] = some (.d .undef,rdO c (p + 1 + 1 + 1 + 1) :: T5,{ ids:=[t + 7],ro:=false,wr:=[t + 7] }):=by
  intro call thaw dst x y
  rw [aHy (by kernel_rfl) (by kernel_rfl) rfl (h:=rdO c (p + 1 + 1 + 1 + 1) :: T4) (id:=t + 7) (cs:=ints row) (esz:=1) (by rw [show t + 7 = t + 6 + 1 by omega,List.getElem?_cons_succ]; exact t4r) (by simp [ints]; omega)]
  rw [show t + 7 = t + 6 + 1 by omega,List.set_cons_succ,hset,h5]
 have hre:∀ x y:D,aF 1099511627776 (.box [.d x,.d y] :: T4) [0,N + 1 + 1 + 1 + 1] [] = [0,N + 1 + 1 + 1 + 1]:=by
  intro x y
  rw [show (1099511627776:Nat) = 1099511627773 + 1 + 1 + 1 from rfl,qY]
  simp [idsL,idsA]
  rw [qY]
  simp [g4,List.getD_eq_getElem?_getD,xR]
 have hclash:∀ (ops:List Oper),AN [(1,10),(3,10),(4,10),(1,11),(3,11),(4,11),(11,12)] ops [{},{ ids:=[N + 2 + 1],ro:=true },{},{ ids:=[5],ro:=true },{ ids:=[5],ro:=true },{},{},{},{},{},{ ids:=[N + 1 + 1 + 1 + 1],ro:=false },{ ids:=[0,N + 1 + 1 + 1 + 1],ro:=false },{ ids:=[t + 7],ro:=true },{ ids:=[t + 7],ro:=false }] = true → mH ops [{},{ ids:=[N + 2 + 1],ro:=true },{},{ ids:=[5],ro:=true },{ ids:=[5],ro:=true },{},{},{},{},{},{ ids:=[N + 1 + 1 + 1 + 1],ro:=false },{ ids:=[0,N + 1 + 1 + 1 + 1],ro:=false },{ ids:=[t + 7],ro:=true },{ ids:=[t + 7],ro:=false }] = true:=by
  intro ops hm
  refine O2 _ hm ?_
  intro q hq
  simp only [List.mem_cons,List.not_mem_nil,or_false] at hq
  rcases hq with rfl | rfl | rfl | rfl | rfl | rfl | rfl <;> simp [oX] <;> omega
 have hlen:(nx.set t (row.set j v)).length = nx.length:=by simp
 have hv:rd1 (rdO c (p + 1 + 1 + 1 + 1) :: T7) (.sl 5 0 0 nx.length) = some (.ivs (nx.set t (row.set j v)).length (aC (nx.set t (row.set j v)))):=by
  refine G6 (cs:=aD 7 nx ++ aI 0) ?_ ?_ hlen.symm
  ·rw [List.getElem?_cons_succ,k7 _ (by omega),k5 _ (by omega),k4 _ (by omega),t4]
  ·rw [← SE (b:=7) (rs:=nx) (k:=t) (r:=row.set j v) (by rw [hrw]; simp)]
   refine PO fun i r hr => ?_
   rw [show i + 7 = i + 6 + 1 by omega,List.getElem?_cons_succ]
   rw [List.getElem?_set] at hr
   by_cases e:t = i
   ·subst e
    rw [if_pos rfl,if_pos ht] at hr
    cases hr
    rw [k7 _ (by omega)]; exact g5
   ·rw [if_neg e] at hr
    have hil:i < nx.length:=(List.getElem?_eq_some_iff.1 hr).1
    rw [k7 _ (by omega),k5 _ (by omega),k4 _ (by omega)]
    exact tr i r hr
 have hw:rd1 (rdO c (p + 1 + 1 + 1 + 1) :: T7) (.sl 6 0 0 ac.length) = some (.ivs ac.length (aB ac)):=by
  refine xT ?_ rfl
  rw [List.getElem?_cons_succ,k7 _ (by omega),k5 _ (by omega),k4 _ (by omega),t5]
 obtain ⟨h2',st_out,st_keep,st_trim⟩:=CX (al:=al) hv hw (by omega) (by omega)
 unfold autD at st_out ⊢
 rw [hlen] at st_out ⊢
 have hti:(t:Int) < nx.length:=by omega
 have ht0:(0:Int) ≤ t:=by omega
 have hn0:(0:Int) < nx.length:=by omega
 have hji:(j:Int) < row.length:=by omega
 have hj0:(0:Int) ≤ j:=by omega
 have hr0:(0:Int) < row.length:=by omega
 clear hv hw k4 k5 k7 tr h1 l4 l7 wg hrow
 obtain _ | n:=n; omega
 rw [mN]
 simp only [mL,Tryd.f51,SLM,simprocAttr]
 simp -implicitDefEqProofs (maxSteps:=2000000) (disch:=first | assumption | (refine Shut.mk ?_; (show mH _ _ = true; with_unfolding_all exact hclash _ (by kernel_rfl))) | (refine Shut.mk ?_; kernel_rfl) | omega | (simp only [GT]; done) | (simp only [LN] <;> omega) | fail) only [↓DN,↓kAsg,↓kRet,UP,simprocAttr,LA,↓kd1,↓kd2,↓kd3,↓kd4,↓kd5,l1,h2,b2,h3,l3,t3,t4,t5,tb,h4,g4,g4D,t3r,t4r,hti,ht0,hn0,hji,hj0,hr0,hd7,hre,↓st_sto,t5b,t53,h7,g7,Int.toNat_natCast,dZ,eN,dL,dY,↓st_out,↓st_keep,↓st_trim,Nat.sub_self,List.range'_zero,List.append_nil,List.append_assoc,List.cons_append,List.nil_append]
def NF (n:Nat) (ids:List Nat):Bool:=decide (ids = [4,n + 9])
theorem aI8 {n:Nat} {ke2:Nat} (he2:ke2 = n + 9):NF n [4,ke2] = true:=by subst he2; simp [NF]
def CG (n i:Nat):Option Nat:=if i = 0 then some 0 else if i = 4 then some 1 else if i = n + 9 then some 2 else none
theorem aEB {n:Nat}:CG n 4 = some (1):=by unfold CG; repeat (first | rfl | rw [if_pos rfl] | rw [if_neg (by omega)])
theorem aBJ {n k:Nat} (h:k = n + 9):CG n k = some (2):=by subst h; unfold CG; repeat (first | rfl | rw [if_pos rfl] | rw [if_neg (by omega)])
theorem aQ8 {m:List Bool} {s:List A} {y1 y2 x0 x1:D} {o1:O} {k z:Nat} {cs:List D} {d:List (List Int)} (hl:d.length ≤ 4294967296):gc 1 m s (.box [.d y1,.d y2] :: o1 :: .arr [] 0 0 :: .arr [] 0 0 :: .box [.d x0,.sl 2 0 0 0,.sl 3 0 0 0] :: .vec (aD 7 d ++ aI 0) 1 0 :: .arr cs 1 0 :: (aJ d ++ [.arr [] 0 0,.arr [] 0 0,.box [.d x1,.sl 5 0 0 k,.sl 6 0 0 z]])) = match box (tidy m s) with
  | .mk s1 => if NF d.length (idsL s1) = true ∧ z0As s1 = true then (aH (CG d.length) s1,.box [.d y1,.d y2] :: .box [.d x0,.sl 3 0 0 0,.sl 4 0 0 0] :: .box [.d x1,.sl 5 0 0 k,.sl 6 0 0 z] :: .arr [] 0 0 :: .arr [] 0 0 :: .vec (aD 7 d ++ aI 0) 1 0 :: .arr cs 1 0 :: aJ d) else gcO 1 m s (.box [.d y1,.d y2] :: o1 :: .arr [] 0 0 :: .arr [] 0 0 :: .box [.d x0,.sl 2 0 0 0,.sl 3 0 0 0] :: .vec (aD 7 d ++ aI 0) 1 0 :: .arr cs 1 0 :: (aJ d ++ [.arr [] 0 0,.arr [] 0 0,.box [.d x1,.sl 5 0 0 k,.sl 6 0 0 z]]))
  | .no => ([],[]):=by
 simp only [box]
 split
 ·rename_i hc
  obtain ⟨hb,hz⟩:=hc
  have hids:idsL (tidy m s) = [4,d.length + 9]:=by simpa [NF] using hb
  obtain ⟨h,hh⟩:∃ h:H,O.box [.d y1,.d y2] :: o1 :: .arr [] 0 0 :: .arr [] 0 0 :: .box [.d x0,.sl 2 0 0 0,.sl 3 0 0 0] :: .vec (aD 7 d ++ aI 0) 1 0 :: .arr cs 1 0 :: (aJ d ++ [.arr [] 0 0,.arr [] 0 0,.box [.d x1,.sl 5 0 0 k,.sl 6 0 0 z]]) = h:=⟨_,rfl⟩
  conv => lhs; rw [hh]
  have g0:h[0]? = some (.box [.d y1,.d y2]):=by rw [← hh]; rfl
  have g2:h[2]? = some (.arr [] 0 0):=by rw [← hh]; rfl
  have g3:h[3]? = some (.arr [] 0 0):=by rw [← hh]; rfl
  have g4:h[4]? = some (.box [.d x0,.sl 2 0 0 0,.sl 3 0 0 0]):=by rw [← hh]; rfl
  have g5:h[5]? = some (.vec (aD 7 d ++ aI 0) 1 0):=by rw [← hh]; rfl
  have g6:h[6]? = some (.arr cs 1 0):=by rw [← hh]; rfl
  have hD:h.drop 7 = aJ d ++ [.arr [] 0 0,.arr [] 0 0,.box [.d x1,.sl 5 0 0 k,.sl 6 0 0 z]]:=by rw [← hh]; rfl
  have gr:=lA 7 hD
  have ge2:h[d.length + 9]? = some (.box [.d x1,.sl 5 0 0 k,.sl 6 0 0 z]):=yM 7 2 hD rfl (by omega)
  have k0:kids h (0) = []:=by simp [kids,g0,idsL,idsA]
  have k4:kids h (4) = [2,3]:=by simp [kids,g4,idsL,idsA]
  have ke2:kids h (d.length + 9) = [5,6]:=by simp [kids,ge2,idsL,idsA]
  have k2:kids h (2) = []:=bX g2
  have k3:kids h (3) = []:=bX g3
  have k5:kids h (5) = List.range' 7 d.length:=by simp [kids,g5,bY,dE,eH,idsL,idsA]
  have leaf:=mB gr
  have hr:aF (aG + 1) h [0,4,d.length + 9] [] = [0,4,d.length + 9,2,3,5] ++ ([6] ++ (List.range' 7 d.length ++ [])):=jW (by simp [k0,k4,ke2,k2,k3,k5]) (by intro q hq; simp only [List.length_cons,List.length_nil] at hq; have:q = 0 ∨ q = 1 ∨ q = 2 ∨ q = 3 ∨ q = 4 ∨ q = 5:=(by omega); rcases this with rfl | rfl | rfl | rfl | rfl | rfl <;> simp [k0,k4,ke2,k2,k3,k5]) leaf (by intro i hi; simp at hi; subst hi; exact ⟨_,_,_,by assumption⟩) (by intro i hi; simp at hi; rcases hi with rfl | rfl | rfl | rfl | rfl | rfl <;> exact ⟨_,by assumption,by simp⟩) (by simp <;> omega) (by intro i hi; simp at hi; omega) (by simp only [aG,List.length_cons,List.length_nil]; omega)
  generalize hord:[0,4,d.length + 9,2,3,5] ++ ([6] ++ (List.range' 7 d.length ++ [])) = ord at hr
  have hA:ord = ([0,4,d.length + 9,2,3,5] ++ [6]) ++ (List.range' 7 d.length ++ []):=by rw [← hord,List.append_assoc]
  have pk:∀ i j,ord[j]? = some i → aK ord i = some j:=fun i j h1 => fP (by rw [← hr]; exact cW (aG + 1) h _ [] (by simp)) h1
  have p0:=pk (0) 0 (by rw [← hord]; rfl)
  have p4:=pk (4) 1 (by rw [← hord]; rfl)
  have pe2:=pk (d.length + 9) 2 (by rw [← hord]; rfl)
  have p2:=pk (2) 3 (by rw [← hord]; rfl)
  have p3:=pk (3) 4 (by rw [← hord]; rfl)
  have p5:=pk (5) 5 (by rw [← hord]; rfl)
  have p6:=pk (6) 6 (by rw [← hord]; rfl)
  have pr:=lZ (C:=7) pk hA rfl
  obtain ⟨K,hK⟩:∃ K:H,O.box [.d y1,.d y2] :: .box [.d x0,.sl 3 0 0 0,.sl 4 0 0 0] :: .box [.d x1,.sl 5 0 0 k,.sl 6 0 0 z] :: .arr [] 0 0 :: .arr [] 0 0 :: .vec (aD 7 d ++ aI 0) 1 0 :: .arr cs 1 0 :: aJ d = K:=⟨_,rfl⟩
  have hni:∀ f,aH f (aI 0) = aI 0:=fun _ => rfl
  have hpk:pack h ord = K:=by
   have hrf:aH (aK ord) (aD 7 d) = aD 7 d:=iK (c:=0) pr
   rw [nW hA gr,← hK]
   simp only [List.cons_append,List.nil_append,List.map_cons,List.map_nil,List.getD_eq_getElem?_getD,g0,g4,ge2,g2,g3,g5,g6,Option.getD_some,mapO,aH,mapA,eQ,hrf,hni,p0,p4,pe2,p2,p3,p5,p6,List.append_nil]
  have hKD:K.drop 7 = aJ d ++ []:=by rw [← hK]; exact (List.append_nil _).symm
  have hgr:=qA hKD
  have hcm:dU 0 K = .box [.d y1,.d y2] :: .box [.d x0,.sl 3 0 0 0,.sl 4 0 0 0] :: .box [.d x1,.sl 5 0 0 k,.sl 6 0 0 z] :: .arr [] 0 0 :: .arr [] 0 0 :: .vec (aD 7 d ++ aI 0) 1 0 :: .arr cs 1 0 :: aJ d:=by
   have hrf:aR 0 K (aD 7 d) = aD 7 d:=jA hgr
   have hnc:∀ h:H,aR 0 h (aI 0) = aI 0:=fun _ => rfl
   have q3:a6 K 3 = some 0:=by rw [← hK]; rfl
   have q4:a6 K 4 = some 0:=by rw [← hK]; rfl
   have q5:a6 K 5 = some 0:=by rw [← hK]; rfl
   have q6:a6 K 6 = some 0:=by rw [← hK]; rfl
   unfold dU
   rw [jD]
   conv => lhs; arg 2; rw [← hK]
   simp only [List.map_cons,List.map_append,List.map_nil,c9,aR,bO,jL,iB,hrf,hnc,j6,q3,q4,q5,q6,Nat.not_lt_zero,if_false,if_true]
  subst hK
  rw [aB5 hh hids hr,hpk,hcm]
  have hmp:aH (aK ord) (tidy m s) = aH (CG d.length) (tidy m s):=by
   apply nU
   rw [hids]
   intro i hi
   simp only [List.mem_cons,List.not_mem_nil,or_false] at hi
   rcases hi with rfl | rfl
   ·rw [p4,aEB]
   ·rw [pe2,aBJ rfl]
  have hz2:aR 0 (O.box [.d y1,.d y2] :: .box [.d x0,.sl 3 0 0 0,.sl 4 0 0 0] :: .box [.d x1,.sl 5 0 0 k,.sl 6 0 0 z] :: .arr [] 0 0 :: .arr [] 0 0 :: .vec (aD 7 d ++ aI 0) 1 0 :: .arr cs 1 0 :: aJ d) (aH (aK ord) (tidy m s)) = aH (aK ord) (tidy m s):=by
   exact nM (IA (by simp [z0O,z0As,z0A,CH,x6,xW,IF])) _ (zN _ hz)
  rw [hz2,hmp]
 ·rfl
theorem aNe {m:List Bool} {s:List A} {y1 y2 x0 x1:D} {k z:Nat} {r:List Int} {cs:List D} {d:List (List Int)} {p:H} (hl:d.length ≤ 4294967296):gc 1 m s (.box [.d y1,.d y2] :: .box [.d x0,.sl 3 0 0 0,.sl 4 0 0 0] :: .box [.d x1,.sl 5 1 0 k,.sl 6 1 0 z] :: .arr [] 0 0 :: .arr [] 0 0 :: .vec (aD 7 d ++ [.sl (d.length + 7) 1 0 r.length]) 1 1 :: .arr cs 1 1 :: (aJ d ++ .arr (ints r) 1 1 :: p)) = match box (tidy m s) with
  | .mk s1 => if idsL s1 = [1,2] then (aR 0 (.box [.d y1,.d y2] :: .box [.d x0,.sl 3 0 0 0,.sl 4 0 0 0] :: .box [.d x1,.sl 5 1 0 k,.sl 6 1 0 z] :: .arr [] 0 0 :: .arr [] 0 0 :: .vec (aD 7 d ++ [.sl (d.length + 7) 1 0 r.length]) 1 1 :: .arr cs 1 1 :: (aJ d ++ [.arr (ints r) 1 1])) (s1),.box [.d y1,.d y2] :: .box [.d x0,.sl 3 0 0 0,.sl 4 0 0 0] :: .box [.d x1,.sl 5 0 0 k,.sl 6 0 0 z] :: .arr [] 0 0 :: .arr [] 0 0 :: .vec (aD 7 d ++ [.sl (d.length + 7) 0 0 r.length]) 1 0 :: .arr cs 1 0 :: (aJ d ++ [.arr (ints r) 1 0])) else gcO 1 m s (.box [.d y1,.d y2] :: .box [.d x0,.sl 3 0 0 0,.sl 4 0 0 0] :: .box [.d x1,.sl 5 1 0 k,.sl 6 1 0 z] :: .arr [] 0 0 :: .arr [] 0 0 :: .vec (aD 7 d ++ [.sl (d.length + 7) 1 0 r.length]) 1 1 :: .arr cs 1 1 :: (aJ d ++ .arr (ints r) 1 1 :: p))
  | .no => ([],[]):=by
 simp only [box]
 split
 ·rename_i hc
  have hb:=hc
  have hids:idsL (tidy m s) = [1,2]:=by exact hb
  obtain ⟨h,hh⟩:∃ h:H,O.box [.d y1,.d y2] :: .box [.d x0,.sl 3 0 0 0,.sl 4 0 0 0] :: .box [.d x1,.sl 5 1 0 k,.sl 6 1 0 z] :: .arr [] 0 0 :: .arr [] 0 0 :: .vec (aD 7 d ++ [.sl (d.length + 7) 1 0 r.length]) 1 1 :: .arr cs 1 1 :: (aJ d ++ .arr (ints r) 1 1 :: p) = h:=⟨_,rfl⟩
  conv => lhs; rw [hh]
  have g0:h[0]? = some (.box [.d y1,.d y2]):=by rw [← hh]; rfl
  have g1:h[1]? = some (.box [.d x0,.sl 3 0 0 0,.sl 4 0 0 0]):=by rw [← hh]; rfl
  have g2:h[2]? = some (.box [.d x1,.sl 5 1 0 k,.sl 6 1 0 z]):=by rw [← hh]; rfl
  have g3:h[3]? = some (.arr [] 0 0):=by rw [← hh]; rfl
  have g4:h[4]? = some (.arr [] 0 0):=by rw [← hh]; rfl
  have g5:h[5]? = some (.vec (aD 7 d ++ [.sl (d.length + 7) 1 0 r.length]) 1 1):=by rw [← hh]; rfl
  have g6:h[6]? = some (.arr cs 1 1):=by rw [← hh]; rfl
  have hD:h.drop 7 = aJ d ++ (.arr (ints r) 1 1 :: p):=by rw [← hh]; rfl
  have gr:=lA 7 hD
  have ge0:h[d.length + 7]? = some (.arr (ints r) 1 1):=yM 7 0 hD rfl (by omega)
  have k0:kids h (0) = []:=by simp [kids,g0,idsL,idsA]
  have k1:kids h (1) = [3,4]:=by simp [kids,g1,idsL,idsA]
  have k2:kids h (2) = [5,6]:=by simp [kids,g2,idsL,idsA]
  have k3:kids h (3) = []:=bX g3
  have k4:kids h (4) = []:=bX g4
  have k5:kids h (5) = List.range' 7 d.length ++ [d.length + 7]:=by simp [kids,g5,bY,dE,eH,idsL,idsA]
  have leaf:=mB gr
  have hr:aF (aG + 1) h [0,1,2] [] = [0,1,2,3,4,5] ++ ([6] ++ (List.range' 7 d.length ++ [d.length + 7])):=jW (by simp [k0,k1,k2,k3,k4,k5]) (by intro q hq; simp only [List.length_cons,List.length_nil] at hq; have:q = 0 ∨ q = 1 ∨ q = 2 ∨ q = 3 ∨ q = 4 ∨ q = 5:=(by omega); rcases this with rfl | rfl | rfl | rfl | rfl | rfl <;> simp [k0,k1,k2,k3,k4,k5]) leaf (by intro i hi; simp at hi; rcases hi with rfl | rfl <;> exact ⟨_,_,_,by assumption⟩) (by intro i hi; simp at hi; rcases hi with rfl | rfl | rfl | rfl | rfl | rfl <;> exact ⟨_,by assumption,by simp⟩) (by simp <;> omega) (by intro i hi; simp at hi; omega) (by simp only [aG,List.length_cons,List.length_nil]; omega)
  generalize hord:[0,1,2,3,4,5] ++ ([6] ++ (List.range' 7 d.length ++ [d.length + 7])) = ord at hr
  have hA:ord = ([0,1,2,3,4,5] ++ [6]) ++ (List.range' 7 d.length ++ [d.length + 7]):=by rw [← hord,List.append_assoc]
  have pk:∀ i j,ord[j]? = some i → aK ord i = some j:=fun i j h1 => fP (by rw [← hr]; exact cW (aG + 1) h _ [] (by simp)) h1
  have p0:=pk (0) 0 (by rw [← hord]; rfl)
  have p1:=pk (1) 1 (by rw [← hord]; rfl)
  have p2:=pk (2) 2 (by rw [← hord]; rfl)
  have p3:=pk (3) 3 (by rw [← hord]; rfl)
  have p4:=pk (4) 4 (by rw [← hord]; rfl)
  have p5:=pk (5) 5 (by rw [← hord]; rfl)
  have p6:=pk (6) 6 (by rw [← hord]; rfl)
  have pr:=lZ (C:=7) pk hA rfl
  have pe0:=UC (C:=7) pk hA rfl 0 (i:=d.length + 7) (j:=d.length + 7) rfl (by omega)
  obtain ⟨K,hK⟩:∃ K:H,O.box [.d y1,.d y2] :: .box [.d x0,.sl 3 0 0 0,.sl 4 0 0 0] :: .box [.d x1,.sl 5 1 0 k,.sl 6 1 0 z] :: .arr [] 0 0 :: .arr [] 0 0 :: .vec (aD 7 d ++ [.sl (d.length + 7) 1 0 r.length]) 1 1 :: .arr cs 1 1 :: (aJ d ++ [.arr (ints r) 1 1]) = K:=⟨_,rfl⟩
  have hni:∀ f,aH f (aI 0) = aI 0:=fun _ => rfl
  have hpk:pack h ord = K:=by
   have hrf:aH (aK ord) (aD 7 d) = aD 7 d:=iK (c:=0) pr
   rw [nW hA gr,← hK]
   simp only [List.cons_append,List.nil_append,List.map_cons,List.map_nil,List.getD_eq_getElem?_getD,g0,g1,g2,g3,g4,g5,g6,ge0,Option.getD_some,mapO,aH,mapA,eQ,hrf,hni,p0,p1,p2,p3,p4,p5,p6,pe0,List.append_nil]
  have hKD:K.drop 7 = aJ d ++ [.arr (ints r) 1 1]:=by rw [← hK]; rfl
  have hgr:=qA hKD
  have hge0:a6 K (d.length + 7) = some 1:=by simp only [a6,yM 7 0 hKD rfl (j:=d.length + 7) (by omega)]
  have hcm:dU 0 K = .box [.d y1,.d y2] :: .box [.d x0,.sl 3 0 0 0,.sl 4 0 0 0] :: .box [.d x1,.sl 5 0 0 k,.sl 6 0 0 z] :: .arr [] 0 0 :: .arr [] 0 0 :: .vec (aD 7 d ++ [.sl (d.length + 7) 0 0 r.length]) 1 0 :: .arr cs 1 0 :: (aJ d ++ [.arr (ints r) 1 0]):=by
   have hrf:aR 0 K (aD 7 d) = aD 7 d:=jA hgr
   have hnc:∀ h:H,aR 0 h (aI 0) = aI 0:=fun _ => rfl
   have q3:a6 K 3 = some 0:=by rw [← hK]; rfl
   have q4:a6 K 4 = some 0:=by rw [← hK]; rfl
   have q5:a6 K 5 = some 1:=by rw [← hK]; rfl
   have q6:a6 K 6 = some 1:=by rw [← hK]; rfl
   unfold dU
   rw [jD]
   conv => lhs; arg 2; rw [← hK]
   simp only [List.map_cons,List.map_append,List.map_nil,c9,aR,bO,jL,iB,hrf,hnc,j6,q3,q4,q5,q6,hge0,Nat.not_lt_zero,if_false,if_true]
  subst hK
  rw [aB5 hh hids hr,hpk,hcm]
  have hmp:aH (aK ord) (tidy m s) = tidy m s:=by
   apply jC
   rw [hids]
   intro i hi
   simp only [List.mem_cons,List.not_mem_nil,or_false] at hi
   rcases hi with rfl | rfl
   ·exact p1
   ·exact p2
  rw [hmp]
 ·rfl
theorem aQH {m:List Bool} {s:List A} {y1 y2 x0 x1:D} {k z:Nat} {r:List Int} {cs:List D} {d:List (List Int)} {p:H} (hl:d.length ≤ 4294967296):gc 1 m s (.box [.d y1,.d y2] :: .box [.d x0,.sl 3 0 0 0,.sl 4 0 0 0] :: .box [.d x1,.sl 5 1 0 k,.sl 6 1 0 z] :: .arr [] 0 0 :: .arr [] 0 0 :: .vec (aD 7 d ++ [.sl (d.length + 7) 1 0 r.length]) 1 1 :: .arr cs 1 1 :: (aJ d ++ .arr (ints r) 1 1 :: p)) = match box (tidy m s) with
  | .mk s1 => if idsL s1 = [1,2] then (s1,.box [.d y1,.d y2] :: .box [.d x0,.sl 3 0 0 0,.sl 4 0 0 0] :: .box [.d x1,.sl 5 0 0 k,.sl 6 0 0 z] :: .arr [] 0 0 :: .arr [] 0 0 :: .vec (aD 7 (d ++ [r]) ++ aI 0) 1 0 :: .arr cs 1 0 :: aJ (d ++ [r])) else gcO 1 m s (.box [.d y1,.d y2] :: .box [.d x0,.sl 3 0 0 0,.sl 4 0 0 0] :: .box [.d x1,.sl 5 1 0 k,.sl 6 1 0 z] :: .arr [] 0 0 :: .arr [] 0 0 :: .vec (aD 7 d ++ [.sl (d.length + 7) 1 0 r.length]) 1 1 :: .arr cs 1 1 :: (aJ d ++ .arr (ints r) 1 1 :: p))
  | .no => ([],[]):=by
 have hn:aI 0 = []:=rfl
 rw [aNe hl,← M4,GD,hn,List.append_nil,Nat.add_comm 7]
 have hc:=qX (nf:=0) (h:=.box [.d y1,.d y2] :: .box [.d x0,.sl 3 0 0 0,.sl 4 0 0 0] :: .box [.d x1,.sl 5 1 0 k,.sl 6 1 0 z] :: .arr [] 0 0 :: .arr [] 0 0 :: .vec (aD 7 d ++ [.sl (d.length + 7) 1 0 r.length]) 1 1 :: .arr cs 1 1 :: (aJ d ++ [.arr (ints r) 1 1])) (tidy m s)
 simp only [box]
 split
 ·rename_i hid
  rw [hc (by rw [hid]; intro i hi; simp at hi; rcases hi with rfl | rfl <;> rfl)]
 ·rfl
theorem aG1 {α:Type} {d:List α} {x:α} {j:Nat}:d ++ [x] ++ List.replicate j x = d ++ List.replicate (j + 1) x:=by
 rw [List.append_assoc,List.replicate_succ]
 rfl
theorem aCW {R:Type} {L n:Nat} {y1 y2 x0:D} {al n0:Int} (hn0:0 < n0) {row:List Int} (hrl:row.length ≤ 4294967290) {k:Exit → List A → H → Option R}:∀ (j m:Nat) (d:List (List Int)) (ac:List Bool) (len len2:Nat) (hj:d.length + j = 13 ∨ j = 0 ∧ 13 ≤ d.length) (hm:j < m) (hd:d[0]? = some row) (hlen:len = d.length) (hlen2:len2 = ac.length) (ha:ac.length + j ≤ 4294967290) (hdl:d.length ≤ 4294967290),
  aU env (aA env L n) L 1 [0,0,0,0,0,0,0,0,0,0,0,0,0,0,0,0,0,0,0,0,0,0,0,0,0,0,0,0,0,0,0,0,0,0,0,0,0,0,0,0,0,0,0,0,0,0,0,0,0,0,0,0,0,0,0,0,0,0,0,0,0,0,0,0,0,0,0,0,0,0,0,0,0,0,0,0,0,0,0,0,0,0,0,1002,0,0,0,0,0,0,0,0,0,0,0,0,0,0,0,0,0,0,0,0,0,1002] (Z4 (U2 (U1 (Z32 (Z32 (Z32 (Z8 (Z2 (Z1 ([])))))))))) (tY 0) (U4 (Z2 (Z1 (U32 (U32 (U32 (U8 (U2 (U1 ([])))))))))) m (Y4 (.ptr 1 0 0 :: .ptr 2 0 0 :: .d (.int .i64 n0) :: Y32 (Y32 (Y32 (Y8 (Y2 (Y1 ([])))))))) (.box [.d y1,.d y2] :: .box [.d x0,.sl 3 0 0 0,.sl 4 0 0 0] :: .box [.d (.int .i64 al),.sl 5 0 0 len,.sl 6 0 0 len2] :: .arr [] 0 0 :: .arr [] 0 0 :: .vec (aD 7 d ++ aI 0) 1 0 :: .arr (aB ac) 1 0 :: aJ d) k
  = k (.exit 1) (Y4 (.ptr 1 0 0 :: .ptr 2 0 0 :: .d (.int .i64 n0) :: Y32 (Y32 (Y32 (Y8 (Y2 (Y1 ([])))))))) (.box [.d y1,.d y2] :: .box [.d x0,.sl 3 0 0 0,.sl 4 0 0 0] :: .box [.d (.int .i64 al),.sl 5 0 0 (d.length + j),.sl 6 0 0 (ac.length + j)] :: .arr [] 0 0 :: .arr [] 0 0 :: .vec (aD 7 (d ++ List.replicate j row) ++ aI 0) 1 0 :: .arr (aB (ac ++ List.replicate j false)) 1 0 :: aJ (d ++ List.replicate j row)):=by
 intro j
 induction j with
 | zero =>
  intro m d ac len len2 hj hm hd hlen hlen2 ha hdl
  obtain _ | m:=m; omega
  have hc:¬ ((d.length:Int) ≤ 12):=by omega
  have hdl2:d.length ≤ 4294967296:=by omega
  subst hlen
  subst hlen2
  simp only [List.replicate_zero,List.append_nil,Nat.add_zero]
  rw [HI]
  simp only [E7,Tryd.f51,SLM,simprocAttr]
  simp -implicitDefEqProofs (maxSteps:=2000000) (disch:=try exact Dz) only [↓DN,↓kAsg,↓kRet,UP,simprocAttr,LA,hn0,hc,↓G3,z0As,z0A,eq_self,tA,tC]
 | succ j ih =>
  intro m d ac len len2 hj hm hd hlen hlen2 ha hdl
  obtain _ | m:=m; omega
  have hc:(d.length:Int) ≤ 12:=by omega
  subst hlen
  subst hlen2
  have hpos:0 < d.length:=(List.getElem?_eq_some_iff.1 hd).1
  have ih':=ih m (d ++ [row]) (ac ++ [false]) (d.length + 1) (ac.length + 1) (by simp; omega) (by omega) (by rw [List.getElem?_append_left hpos]; exact hd) (by simp) (by simp) (by simp; omega) (by simp; omega)
  rw [aG1,aG1] at ih'
  simp only [List.length_append,List.length_cons,List.length_nil,Nat.zero_add] at ih'
  rw [show d.length + 1 + j = d.length + (j + 1) by omega,show ac.length + 1 + j = ac.length + (j + 1) by omega] at ih'
  clear ih
  have hh0:(aD 7 d ++ aI 0).head? = some (.sl 7 0 0 row.length):=by
   cases d with
   | nil => simp at hd
   | cons r d => simp at hd; subst hd; rfl
  have hlv:(aD 7 d ++ aI 0).length = d.length:=by rw [List.length_append,mO]; rfl
  have ht:(aD 7 d ++ aI 0).take d.length = aD 7 d:=PV rfl
  obtain ⟨T0,e0⟩:∃ T:H,T = (.box [.d x0,.sl 3 0 0 0,.sl 4 0 0 0] :: .box [.d (.int .i64 al),.sl 5 0 0 d.length,.sl 6 0 0 ac.length] :: .arr [] 0 0 :: .arr [] 0 0 :: .vec (aD 7 d ++ aI 0) 1 0 :: .arr (aB ac) 1 0 :: aJ d):=⟨_,rfl⟩
  have l0:T0.length = d.length + 6:=by rw [e0]; simp [dK]
  have t01:T0[1]? = some (.box [.d (.int .i64 al),.sl 5 0 0 d.length,.sl 6 0 0 ac.length]):=by rw [e0]; rfl
  have t04:T0[4]? = some (.vec (aD 7 d ++ aI 0) 1 0):=by rw [e0]; rfl
  have t05:T0[5]? = some (.arr (aB ac) 1 0):=by rw [e0]; rfl
  have t0r:∀ (i:Nat) (r:List Int),d[i]? = some r → T0[i + 6]? = some (.arr (ints r) 1 0):=by
   intro i r hr
   rw [e0]
   simp only [List.getElem?_cons_succ]
   have:=G8 (p:=[]) hr
   rwa [List.append_nil] at this
  have w0:wgt T0 ≤ d.length + 4:=by
   rw [e0]
   simp only [uN,HW,mG,idsL,idsA,bY,dE,eH,List.length_append,List.length_range',List.length_cons,List.length_nil,List.append_nil]
   omega
  obtain ⟨T1,h1⟩:∃ T,T0 ++ [.arr [] 1 0] = T:=⟨_,rfl⟩
  obtain ⟨l1,g1,k1⟩:=qL h1
  rw [l0] at l1 g1 k1
  have w1:wgt T1 = wgt T0:=by rw [← h1,YZ]; simp [mG]
  obtain ⟨T2,h2⟩:∃ T,T1.set (d.length + 6) (.arr (ints row) 1 1) = T:=⟨_,rfl⟩
  obtain ⟨l2,g2,k2⟩:=hY h2 (by omega)
  have w2:wgt T2 ≤ wgt T1:=by rw [← h2]; have:=zB (h:=T1) (i:=d.length + 6) (o:=.arr (ints row) 1 1); simpa [mG] using this
  obtain ⟨T3,h3⟩:∃ T,T2 ++ [.vec [.sl (d.length + 7) 1 0 row.length] 1 0] = T:=⟨_,rfl⟩
  obtain ⟨l3,g3,k3⟩:=qL h3
  rw [l2,l1] at l3 g3 k3
  have w3:wgt T3 = wgt T2 + 1:=by rw [← h3,YZ]; simp [mG,idsL,idsA]
  obtain ⟨T4,h4⟩:∃ T,T3.set 4 (.vec (aD 7 d ++ [.sl (d.length + 7) 1 0 row.length]) 1 1) = T:=⟨_,rfl⟩
  obtain ⟨l4,g4,k4⟩:=hY h4 (by omega)
  have w4:wgt T4 ≤ wgt T3 + d.length + 1:=by
   rw [← h4]
   have:=zB (h:=T3) (i:=4) (o:=.vec (aD 7 d ++ [.sl (d.length + 7) 1 0 row.length]) 1 1)
   simp only [mG,bY,dE,idsL,idsA,List.length_append,List.length_range',List.length_cons,List.length_nil] at this
   omega
  obtain ⟨T5,h5⟩:∃ T,T4.set 1 (.box [.d (.int .i64 al),.sl 5 1 0 (d.length + 1),.sl 6 0 0 ac.length]) = T:=⟨_,rfl⟩
  obtain ⟨l5,g5,k5⟩:=hY h5 (by omega)
  obtain ⟨T6,h6⟩:∃ T,T5 ++ [.arr [.bool false] 1 0] = T:=⟨_,rfl⟩
  obtain ⟨l6,g6,k6⟩:=qL h6
  rw [l5,l4,l3] at l6 g6 k6
  obtain ⟨T7,h7⟩:∃ T,T6.set 5 (.arr (aB (ac ++ [false])) 1 1) = T:=⟨_,rfl⟩
  obtain ⟨l7,g7,k7⟩:=hY h7 (by omega)
  obtain ⟨T8,h8⟩:∃ T,T7.set 1 (.box [.d (.int .i64 al),.sl 5 1 0 (d.length + 1),.sl 6 1 0 (ac.length + 1)]) = T:=⟨_,rfl⟩
  have e8:T8 = .box [.d x0,.sl 3 0 0 0,.sl 4 0 0 0] :: .box [.d (.int .i64 al),.sl 5 1 0 (d.length + 1),.sl 6 1 0 (ac.length + 1)] :: .arr [] 0 0 :: .arr [] 0 0 :: .vec (aD 7 d ++ [.sl (d.length + 7) 1 0 row.length]) 1 1 :: .arr (aB (ac ++ [false])) 1 1 :: (aJ d ++ .arr (ints row) 1 1 :: .vec [.sl (d.length + 7) 1 0 row.length] 1 0 :: [.arr [.bool false] 1 0]):=by
   rw [← h8,← h7,← h6,← h5,← h4,← h3,← h2,← h1,e0]
   simp only [List.cons_append,List.append_assoc,List.nil_append,List.set_cons_succ,List.set_cons_zero]
   rw [vS rfl]
   simp only [List.cons_append,List.append_assoc,List.nil_append]
  have st_gc:∀ {mk:List Bool} {s:List A},gc 1 mk s (.box [.d y1,.d y2] :: T8) = match box (tidy mk s) with
    | .mk s1 => if idsL s1 = [1,2] then (s1,.box [.d y1,.d y2] :: .box [.d x0,.sl 3 0 0 0,.sl 4 0 0 0] :: .box [.d (.int .i64 al),.sl 5 0 0 (d.length + 1),.sl 6 0 0 (ac.length + 1)] :: .arr [] 0 0 :: .arr [] 0 0 :: .vec (aD 7 (d ++ [row]) ++ aI 0) 1 0 :: .arr (aB (ac ++ [false])) 1 0 :: aJ (d ++ [row])) else gcO 1 mk s (.box [.d y1,.d y2] :: T8)
    | .no => ([],[]):=by
   intro mk s
   rw [e8]
   exact aQH (by omega)
  have st_app1:∀ {call:a7} {thaw:List Nat} {dst:Option Tmp} {args:Array Operand},memD env call thaw dst (.call ⟨.builtin .append,args,#[32,32]⟩) (.box [.d y1,.d y2] :: T1) [.sl (d.length + 6 + 1) 0 0 0,.sl 7 0 0 row.length] = some (.sl (d.length + 7) 1 0 row.length,.box [.d y1,.d y2] :: T2,{ ids:=[d.length + 7,7],ro:=false,wr:=[d.length + 7] }):=by
   intro call thaw dst args
   have h7r:T1[6]? = some (.arr (ints row) 1 0):=by rw [k1 _ (by omega)]; exact t0r 0 row hd
   rw [aEy (e:=3) (e0:=1) (n2:=row.length) (len:=0) (cs:=[]) (src:=ints row) rfl dY (by kernel_rfl) (by rw [List.getElem?_cons_succ]; exact g1) (.inr rfl) (by rw [List.getElem?_cons_succ]; exact h7r) (by simp [ints]) (by simp) (by unfold bW; omega) (by omega)]
   rw [List.set_cons_succ,← h2]
   simp
  have st_vec:∀ {call:a7} {thaw:List Nat} {dst:Option Tmp} {x:Operand},Shut (GZ thaw dst = true) → memD env call thaw dst (.buildSlice 23 1 #[(0,x)]) (.box [.d y1,.d y2] :: T2) [.sl (d.length + 7) 1 0 row.length] = some (.sl (d.length + 8) 0 0 1,.box [.d y1,.d y2] :: T3,{ ids:=[d.length + 7,d.length + 8],ro:=false }):=by
   intro call thaw dst x hk
   rw [aL2 (e:=32) (cs:=ints row) (es:=1) hk.it rfl (by kernel_rfl) eN (by kernel_rfl) (by rw [show d.length + 7 = d.length + 6 + 1 by omega,List.getElem?_cons_succ]; exact g2)]
   rw [List.cons_append,h3,List.length_cons,l2,l1]
  have ok_row:∀ (T:H) (i:Nat) (r:List Int) (g:Nat),T[i + 6]? = some (.arr (ints r) 1 g) → Okay (.box [.d y1,.d y2] :: T) (i + 7):=by
   intro T i r g hr
   have hg:(O.box [.d y1,.d y2] :: T)[i + 7]? = some (.arr (ints r) 1 g):=by rw [show i + 7 = i + 6 + 1 by omega,List.getElem?_cons_succ]; exact hr
   exact .mk _ _ hg (by simp) (by rw [bX hg]; simp)
  have t3r:∀ (i:Nat) (r:List Int),d[i]? = some r → T3[i + 6]? = some (.arr (ints r) 1 0):=by
   intro i r hr
   have hi:i < d.length:=(List.getElem?_eq_some_iff.1 hr).1
   rw [k3 _ (by omega),k2 _ (by omega),k1 _ (by omega)]
   exact t0r i r hr
  have t3e:T3[d.length + 6]? = some (.arr (ints row) 1 1):=by rw [k3 _ (by omega)]; exact g2
  have t34:T3[4]? = some (.vec (aD 7 d ++ aI 0) 1 0):=by rw [k3 _ (by omega),k2 _ (by omega),k1 _ (by omega),t04]
  have g3':T3[d.length + 7]? = some (.vec [.sl (d.length + 7) 1 0 row.length] 1 0):=g3
  have ok35:Okay (.box [.d y1,.d y2] :: T3) 5:=by
   have hg:(O.box [.d y1,.d y2] :: T3)[5]? = some (.vec (aD 7 d ++ aI 0) 1 0):=t34
   refine .mk _ _ hg (by simp) ?_
   intro q hq
   have:kids (.box [.d y1,.d y2] :: T3) 5 = List.range' 7 d.length:=by simp only [kids,hg,bY,dE,eH,List.append_nil]
   rw [this,List.mem_range'_1] at hq
   obtain ⟨z,rfl⟩:∃ z,q = z + 7:=⟨q - 7,by omega⟩
   exact ok_row T3 z (d[z]'(by omega)) 0 (t3r _ _ (List.getElem?_eq_getElem _))
  have ok3e:Okay (.box [.d y1,.d y2] :: T3) (d.length + 8):=by
   have hg:(O.box [.d y1,.d y2] :: T3)[d.length + 8]? = some (.vec [.sl (d.length + 7) 1 0 row.length] 1 0):=g3'
   refine .mk _ _ hg (by simp) ?_
   intro q hq
   have:kids (.box [.d y1,.d y2] :: T3) (d.length + 8) = [d.length + 7]:=by simp [kids,hg,idsL,idsA]
   rw [this] at hq
   simp at hq; subst hq
   exact ok_row T3 d.length row 1 t3e
  obtain ⟨o1,ho1⟩:∃ o,o = aF aG (.box [.d y1,.d y2] :: T3) [5,d.length + 8] []:=⟨_,rfl⟩
  have st_app2:∀ {call:a7} {thaw:List Nat} {dst:Option Tmp} {args:Array Operand},memD env call thaw dst (.call ⟨.builtin .append,args,#[23,23]⟩) (.box [.d y1,.d y2] :: T3) [.sl 5 0 0 d.length,.sl (d.length + 8) 0 0 1] = some (.sl 5 1 0 (d.length + 1),.box [.d y1,.d y2] :: T4,{ ids:=o1,ro:=false,wr:=[5] }):=by
   intro call thaw dst args
   rw [aD4 (e:=32) rfl eN (by kernel_rfl) (id:=5) (id2:=d.length + 8) (g:=0) (g2:=0) (len:=d.length) (cs:=aD 7 d ++ aI 0) (c:=.sl (d.length + 7) 1 0 row.length) t34 g3' (by omega) (by unfold bW; omega) ok35 ok3e (by rw [uN]; simp only [mG,idsL,idsA,List.nil_append,List.length_nil]; omega),← ho1,ht]
   rw [List.set_cons_succ,h4]
  have t41:T4[1]? = some (.box [.d (.int .i64 al),.sl 5 0 0 d.length,.sl 6 0 0 ac.length]):=by rw [k4 _ (by omega),k3 _ (by omega),k2 _ (by omega),k1 _ (by omega),t01]
  have t45:T4[5]? = some (.arr (aB ac) 1 0):=by rw [k4 _ (by omega),k3 _ (by omega),k2 _ (by omega),k1 _ (by omega),t05]
  have ok45:Okay (.box [.d y1,.d y2] :: T4) 5:=by
   have hg:(O.box [.d y1,.d y2] :: T4)[5]? = some (.vec (aD 7 d ++ [.sl (d.length + 7) 1 0 row.length]) 1 1):=g4
   refine .mk _ _ hg (by simp) ?_
   intro q hq
   have:kids (.box [.d y1,.d y2] :: T4) 5 = List.range' 7 d.length ++ [d.length + 7]:=by simp only [kids,hg,bY,dE,idsL,idsA,List.append_nil]
   rw [this,List.mem_append,List.mem_range'_1] at hq
   rcases hq with hq | hq
   ·obtain ⟨z,rfl⟩:∃ z,q = z + 7:=⟨q - 7,by omega⟩
    exact ok_row T4 z (d[z]'(by omega)) 0 (by rw [k4 _ (by omega)]; exact t3r _ _ (List.getElem?_eq_getElem _))
   ·simp at hq; subst hq
    exact ok_row T4 d.length row 1 (by rw [k4 _ (by omega)]; exact t3e)
  have ok46:Okay (.box [.d y1,.d y2] :: T4) 6:=by
   have hg:(O.box [.d y1,.d y2] :: T4)[6]? = some (.arr (aB ac) 1 0):=t45
   exact .mk _ _ hg (by simp) (by rw [bX hg]; simp)
  have ok42:Okay (.box [.d y1,.d y2] :: T4) 2:=by
   have hg:(O.box [.d y1,.d y2] :: T4)[2]? = some (.box [.d (.int .i64 al),.sl 5 0 0 d.length,.sl 6 0 0 ac.length]):=t41
   refine .mk _ _ hg (by simp) ?_
   intro q hq
   have:kids (.box [.d y1,.d y2] :: T4) 2 = [5,6]:=by simp [kids,hg,idsL,idsA]
   rw [this] at hq
   simp at hq
   rcases hq with rfl | rfl
   ·exact ok45
   ·exact ok46
  obtain ⟨o2,ho2⟩:∃ o,o = aF aG (.box [.d y1,.d y2] :: T4) [2,5] []:=⟨_,rfl⟩
  have st_sto:∀ {call:a7} {thaw:List Nat} {dst:Option Tmp} {x y:Operand},memD env call thaw dst (.store 23 x y) (.box [.d y1,.d y2] :: T4) [.ptr 2 0 1,.sl 5 1 0 (d.length + 1)] = some (.d .undef,.box [.d y1,.d y2] :: T5,{ ids:=o2,ro:=false,wr:=o2 }):=by
   intro call thaw dst x y
   rw [MV (by kernel_rfl) (by kernel_rfl) (h:=.box [.d y1,.d y2] :: T4) (id:=2) (id2:=5) (off:=1) (cs:=[.d (.int .i64 al),.sl 5 0 0 d.length,.sl 6 0 0 ac.length]) t41 (by simp) ok42 ok45 (by rw [uN]; simp only [mG,idsL,idsA,List.nil_append,List.length_nil]; omega),← ho2]
   rw [List.set_cons_succ]
   unfold bS
   rw [← h5]
   rfl
  have hclash:∀ (ops:List Oper),AN [(1,2),(2,4),(2,5),(2,6),(1,7),(1,8)] ops [{},{ ids:=[2],ro:=true },{ ids:=[d.length + 6 + 1],ro:=false },{},{ ids:=[2],ro:=true },{ ids:=[5],ro:=true },{ ids:=[5],ro:=true },{ ids:=[d.length + 7,7],ro:=false,wr:=[d.length + 7] },{ ids:=[d.length + 7,d.length + 8],ro:=false },{ ids:=o1,ro:=false,wr:=[5] },{},{ ids:=o2,ro:=false,wr:=o2 }] = true → mH ops [{},{ ids:=[2],ro:=true },{ ids:=[d.length + 6 + 1],ro:=false },{},{ ids:=[2],ro:=true },{ ids:=[5],ro:=true },{ ids:=[5],ro:=true },{ ids:=[d.length + 7,7],ro:=false,wr:=[d.length + 7] },{ ids:=[d.length + 7,d.length + 8],ro:=false },{ ids:=o1,ro:=false,wr:=[5] },{},{ ids:=o2,ro:=false,wr:=o2 }] = true:=by
   intro ops hm
   refine O2 _ hm ?_
   intro q hq
   simp only [List.mem_cons,List.not_mem_nil,or_false] at hq
   rcases hq with rfl | rfl | rfl | rfl | rfl | rfl <;> simp [oX] <;> omega
  have t5b:T5[5]? = some (.arr (aB ac) 1 0):=by rw [k5 _ (by omega),t45]
  have t65:T6[5]? = some (.arr (aB ac) 1 0):=by rw [k6 _ (by omega),t5b]
  have t71:T7[1]? = some (.box [.d (.int .i64 al),.sl 5 1 0 (d.length + 1),.sl 6 0 0 ac.length]):=by rw [k7 _ (by omega),k6 _ (by omega),g5]
  have t61:T6[1]? = some (.box [.d (.int .i64 al),.sl 5 1 0 (d.length + 1),.sl 6 0 0 ac.length]):=by rw [k6 _ (by omega),g5]
  have hp0:(0:Int) < d.length:=by omega
  have t11:T1[1]? = some (.box [.d (.int .i64 al),.sl 5 0 0 d.length,.sl 6 0 0 ac.length]):=by rw [k1 _ (by omega),t01]
  have t14:T1[4]? = some (.vec (aD 7 d ++ aI 0) 1 0):=by rw [k1 _ (by omega),t04]
  have l5':T5.length = d.length + 8:=by omega
  rw [← e0]
  clear k1 k2 k3 k4 k5 k6 k7 w0 w1 w2 w3 w4 ok35 ok3e ok45 ok46 ok42 ok_row t3r t3e ho1 ho2 e0 e8 l1 l2 l3 l4 l5 l6 l7 hlv ht hd hpos t0r g3 g3'
  rw [HI]
  simp only [E7,Tryd.f51,SLM,simprocAttr]
  simp -implicitDefEqProofs (maxSteps:=2000000) (disch:=try exact Dz) only [↓DN,↓kAsg,↓kRet,UP,simprocAttr,LA,hn0,hc,hp0,l0,t01,t04,t05,h1,g1,t11,t14,hh0,↓st_app1,g2,↓st_vec,t34,↓st_app2,g4,t41,t45,↓st_sto,g5,t5b,l5',h6,g6,t65,t61,h7,t71,h8,d7,iU,DC,dZ,eN,dL,dY,yH,vX,↓st_gc,↓ih',List.append_assoc,List.cons_append,List.nil_append]
theorem aHj {c:List UInt8} (hc:c.length ≤ 2000) (al:Int) (nx:List (List Int)) (ac:List Bool) (hs:aX nx) (h1:1 ≤ nx.length) (ha:ac.length ≤ 4294967000) (hnl2:nx.length ≤ 4294967000) (p t:Int) {row:List Int} (hrow:nx[0]? = some row) (hrl:row.length ≤ 4294967290) (j:Nat) (hj:nx.length + j = 13 ∨ j = 0 ∧ 13 ≤ nx.length)
  (kd1:(Dw 1 48 [.d (.int .i64 (nx.length))] (.d (.int .i64 t)) c p (p + 1)))
  (kd2:(Dw 1 48 [.d (.int .i64 30)] (.d (.int .i64 5)) c (p + 1) (p + 1 + 1))):(Dw 4 51 [autD al nx ac] (autD al (nx ++ List.replicate j row) (ac ++ List.replicate j false)) c p (p + 1 + 1)):=by
 intro R L n hq k hn hL
 refine eF qQ (by simp [autD,idsA,idsL]) (by simp [autD,idsA,idsL]) ?_
 have hnl:=hs.1
 obtain ⟨N,T1,T2,T3,w⟩:=xU (.box [.d (.int .i64 al),.d (.ivs nx.length (aC nx)),.d (.ivs ac.length (aB ac))]) (.box [.d (.int .i64 0),.sl 2 0 0 0,.sl 3 0 0 0]) al nx ac
 have kd3:=fun {R:Type} {n:Nat} {o1:O} {k:A → H → Option R} (hn:2 ≤ n) => CF (R:=R) (L:=L) (n:=n) (o1:=o1) (al:=al) (k:=k) w.h1 hs h1 (by omega) hn hL
 obtain ⟨hN,hT1,l1,h2,b2,h3,l3,t3,t4,t5,tr,tb,e3,wg⟩:=w
 clear hT1
 have st_gc:∀ {y1 y2:D} {mk:List Bool} {s:List A},gc 1 mk s (.box [.d y1,.d y2] :: T3) = match box (tidy mk s) with
   | .mk s1 => if NF nx.length (idsL s1) = true ∧ z0As s1 = true then (aH (CG nx.length) s1,.box [.d y1,.d y2] :: .box [.d (.int .i64 0),.sl 3 0 0 0,.sl 4 0 0 0] :: .box [.d (.int .i64 al),.sl 5 0 0 nx.length,.sl 6 0 0 ac.length] :: .arr [] 0 0 :: .arr [] 0 0 :: .vec (aD 7 nx ++ aI 0) 1 0 :: .arr (aB ac) 1 0 :: aJ nx) else gcO 1 mk s (.box [.d y1,.d y2] :: T3)
   | .no => ([],[]):=by
  intro y1 y2 mk s
  rw [e3]
  exact aQ8 (by omega)
 have loop_a:=fun {R:Type} {n:Nat} {y1 y2 x0:D} {k:Exit → List A → H → Option R} => aCW (R:=R) (L:=L) (n:=n) (y1:=y1) (y2:=y2) (x0:=x0) (al:=al) (n0:=nx.length) (k:=k) (by omega) hrl j L nx ac nx.length ac.length hj (by omega) hrow rfl rfl (by omega) (by omega)
 have hl1:(nx ++ List.replicate j row).length = nx.length + j:=by simp
 have hl2:(ac ++ List.replicate j false).length = ac.length + j:=by simp
 generalize nx ++ List.replicate j row = nx2 at *
 generalize ac ++ List.replicate j false = ac2 at *
 obtain ⟨T9,e9⟩:∃ T:H,.box [.d (.int .i64 al),.sl 5 0 0 (nx.length + j),.sl 6 0 0 (ac.length + j)] :: .box [.d (.int .i64 al),.sl 5 0 0 (nx.length + j),.sl 6 0 0 (ac.length + j)] :: .arr [] 0 0 :: .arr [] 0 0 :: .vec (aD 7 nx2 ++ aI 0) 1 0 :: .arr (aB ac2) 1 0 :: aJ nx2 = T:=⟨_,rfl⟩
 have g9:T9[0]? = some (.box [.d (.int .i64 al),.sl 5 0 0 (nx.length + j),.sl 6 0 0 (ac.length + j)]):=by rw [← e9]; rfl
 have hv:rd1 (rdO c (p + 1 + 1) :: T9) (.sl 5 0 0 (nx.length + j)) = some (.ivs nx2.length (aC nx2)):=by
  refine G6 (cs:=aD 7 nx2 ++ aI 0) (by rw [← e9]; rfl) (PO fun i r hr => ?_) hl1.symm
  rw [← e9]
  simp only [List.getElem?_cons_succ]
  have:=G8 (p:=[]) hr
  rwa [List.append_nil] at this
 have hw:rd1 (rdO c (p + 1 + 1) :: T9) (.sl 6 0 0 (ac.length + j)) = some (.ivs ac2.length (aB ac2)):=xT (by rw [← e9]; rfl) hl2.symm
 obtain ⟨h2',st_out,st_keep,st_trim⟩:=CX (al:=al) hv hw (by omega) (by omega)
 unfold autD at st_out ⊢
 have hke:N + 1 + 1 + 1 = nx.length + 9:=by omega
 clear hv hw tr h1 wg e3 hrow
 obtain _ | n:=n; omega
 rw [mN]
 simp only [mL,Tryd.f51,SLM,simprocAttr]
 simp -implicitDefEqProofs (maxSteps:=2000000) (disch:=try exact Dz) only [↓DN,↓kAsg,↓kRet,UP,simprocAttr,LA,↓kd1,↓kd2,↓kd3,l1,h2,b2,h3,l3,t3,t4,t5,tb,↓st_gc,aI8,aEB,aBJ,z0As,z0A,eq_self,↓loop_a,e9,g9,↓st_out,↓st_keep,↓st_trim,List.append_assoc,List.cons_append,List.nil_append]
end Ev
end Go.Proofs.YtppdfjdfjfoddaaDoor
