/-
  Automata that are drawn: one whose bad state is a trap.
-/
import Derived.Test.YtppdfjdfjfoddaaDoorMemD
import Derived.Test.YtppdfjdfjfoddaaDoorRdNew
import Derived.Test.YtppdfjdfjfoddaaDoorDrawR
import Derived.Test.YtppdfjdfjfoddaaDoorEnvF
import Derived.Test.YtppdfjdfjfoddaaDoorEvDef
import Derived.Test.YtppdfjdfjfoddaaDoorAutoL
set_option linter.unusedSimpArgs false
set_option linter.unusedVariables false
set_option maxRecDepth 1000000
set_option maxHeartbeats 4000000
namespace Go.Proofs.YtppdfjdfjfoddaaDoor
namespace Ev
def BA (x:Int):Nat → Nat → List Bool → List Bool
 | 0,_,bl => bl
 | j + 1,i,bl => BA x j (i + 1) (bl.set i (decide ((i:Int) < x)))
theorem aFE (x:Int):∀ (j i:Nat) (bl:List Bool),(BA x j i bl).length = bl.length
 | 0,_,_ => rfl
 | j + 1,i,bl => by rw [BA,aFE x j,List.length_set]
def CJ (x:Int):Nat → Nat → List Int → List Int
 | 0,_,r => r
 | j + 1,i,r => CJ x j (i + 1) (r.set i x)
theorem XJ (x:Int):∀ (j i:Nat) (r:List Int),(CJ x j i r).length = r.length
 | 0,_,_ => rfl
 | j + 1,i,r => by rw [CJ,XJ x j,List.length_set]
theorem aMw {l:List Bool} {k:Nat} {v:Bool} (h:k < l.length):List.take k (aK l) ++ [D.bool v] ++ List.drop (k + 1) (aK l) = aK (l.set k v):=aFg h
theorem aBr {l:List Int} {k:Nat} {v:Int} (h:k < l.length):List.take k (ints l) ++ [D.int .i64 v] ++ List.drop (k + 1) (ints l) = ints (l.set k v):=DY h
theorem oV {rs:List (List Int)} {k:Nat} (h:k < rs.length):((aB 7 rs ++ aF 0).drop k).head? = some (.sl (k + 7) 0 0 (rs.getD k []).length):=by
 rw [aFM (b:=0) (k:=0) h,Nat.add_comm]
theorem F4 {rs:List (List Int)} {b k:Nat} {r:List Int} (h:r.length = (rs.getD k []).length):aB b (rs.set k r) = aB b rs:=by
 apply aCv
 rw [List.map_set]
 by_cases hk:k < rs.length
 ·have:r.length = (rs.map List.length)[k]'(by simpa using hk):=by
   rw [h,List.getElem_map,List.getD_eq_getElem?_getD,List.getElem?_eq_getElem hk]; rfl
  rw [this,List.set_getElem_self]
 ·rw [List.set_eq_of_length_le (by simp; omega)]
theorem aR4 {m:List Bool} {s:List A} {y1 y2 x0 x1:D} {k z:Nat} {cs:List D} {d d2:List (List Int)} (he:aB 7 d2 = aB 7 d) (hl:d2.length ≤ 4294967296):gc 1 m s (.box [.d y1,.d y2] :: .box [.d x0,.sl 3 0 0 0,.sl 4 0 0 0] :: .box [.d x1,.sl 5 0 0 k,.sl 6 0 0 z] :: .arr [] 0 0 :: .arr [] 0 0 :: .vec (aB 7 d ++ aF 0) 1 0 :: .arr cs 1 0 :: aH d2) = match box (tidy m s) with
  | .mk s1 => if idsL s1 = [1,2] ∧ z0As s1 = true then (aG (D3 d2.length) s1,.box [.d y1,.d y2] :: .box [.d x0,.sl 3 0 0 0,.sl 4 0 0 0] :: .box [.d x1,.sl 5 0 0 k,.sl 6 0 0 z] :: .arr [] 0 0 :: .arr [] 0 0 :: .vec (aB 7 d ++ aF 0) 1 0 :: .arr cs 1 0 :: aH d2) else gcO 1 m s (.box [.d y1,.d y2] :: .box [.d x0,.sl 3 0 0 0,.sl 4 0 0 0] :: .box [.d x1,.sl 5 0 0 k,.sl 6 0 0 z] :: .arr [] 0 0 :: .arr [] 0 0 :: .vec (aB 7 d ++ aF 0) 1 0 :: .arr cs 1 0 :: aH d2)
  | .no => ([],[]):=by
 rw [← he]
 exact IS hl
theorem aEo {R:Type} {L n:Nat} {y1 y2 x0:D} {al st x:Int} {s:Nat} {nx:List (List Int)} (hx:st - 1 = x) (hst:st = s) (hs:s ≤ 100) (hnl:nx.length ≤ 4294967296) {k:Exit → List A → H → Option R}:∀ (j i m:Nat) (bl:List Bool) (len:Nat) (hi:i + j = s) (hm:j < m) (hbl:bl.length = s) (hlen:len = bl.length),
  aO env (aA env L n) L 1 [] (Z2 (U1 (Z2 (Z1 (U4 (Z32 (Z4 (Z2 (Z1 ([])))))))))) (lL 0) (U2 (Z1 (U2 (U1 (Z2 (Z1 (U32 (U8 ([]))))))))) m (Y2 (.d (.int .i64 st) :: Y2 (Y1 (.ptr 1 0 0 :: .ptr 2 0 0 :: .d (.int .i64 ((i:Int))) :: Y32 (Y8 ([])))))) (.box [.d y1,.d y2] :: .box [.d x0,.sl 3 0 0 0,.sl 4 0 0 0] :: .box [.d (.int .i64 al),.sl 5 0 0 nx.length,.sl 6 0 0 len] :: .arr [] 0 0 :: .arr [] 0 0 :: .vec (aB 7 nx ++ aF 0) 1 0 :: .arr (aK bl) 1 0 :: aH nx) k
  = k (.exit 0) (Y2 (.d (.int .i64 st) :: Y2 (Y1 (.ptr 1 0 0 :: .ptr 2 0 0 :: .d (.int .i64 ((s:Int))) :: Y32 (Y8 ([])))))) (.box [.d y1,.d y2] :: .box [.d x0,.sl 3 0 0 0,.sl 4 0 0 0] :: .box [.d (.int .i64 al),.sl 5 0 0 nx.length,.sl 6 0 0 s] :: .arr [] 0 0 :: .arr [] 0 0 :: .vec (aB 7 nx ++ aF 0) 1 0 :: .arr (aK (BA x j i bl)) 1 0 :: aH nx):=by
 intro j
 induction j with
 | zero =>
  intro i m bl len hi hm hbl hlen
  obtain _ | m:=m; omega
  obtain rfl:i = s:=by omega
  rw [hbl] at hlen
  subst hlen
  have hc1:¬ ((len:Int) < st):=by omega
  rw [M2]
  simp only [JO,Tryd.f90,SLM,simprocAttr]
  simp -implicitDefEqProofs (maxSteps:=2000000) (disch:=try exact Dz) only [↓DN,↓kAsg,↓kRet,UP,simprocAttr,LA,hc1,↓IS,z0As,z0A,eq_self,vA,vH,BA]
 | succ j ih =>
  intro i m bl len hi hm hbl hlen
  obtain _ | m:=m; omega
  subst hlen
  have hc1:(i:Int) < st:=by omega
  have hk:i < bl.length:=by omega
  have hb1:(0:Int) ≤ i:=by omega
  have ih':=ih (i + 1) m (bl.set i (decide ((i:Int) < x))) bl.length (by omega) (by omega) (by simpa using hbl) (by simp)
  rw [show ((i + 1:Nat):Int) = (i:Int) + 1 by omega] at ih'
  rw [BA]
  clear ih
  rw [M2]
  simp only [JO,Tryd.f90,SLM,simprocAttr]
  simp -implicitDefEqProofs (maxSteps:=2000000) (disch:=try exact Dz) only [↓DN,↓kAsg,↓kRet,UP,simprocAttr,LA,hc1,hx,vS,tD,aMw,↓IS,z0As,z0A,eq_self,vA,vH,↓ih']
theorem aD0 {R:Type} {L n:Nat} {y1 y2 x0:D} {al st i9:Int} {s t:Nat} {bl:List Bool} {w:Nat} (hx:st - 1 = (t:Int)) (hs:s ≤ 100) (hw:w ≤ 100) (ht:t < s) {k:Exit → List A → H → Option R}:∀ (j i m:Nat) (nx:List (List Int)) (len:Nat) (hi:i + j = w) (hm:j < m) (hr:(nx.getD t []).length = w) (hnx:nx.length = s) (hlen:len = nx.length),
  aO env (aA env L n) L 1 [] (Z2 (U1 (Z2 (Z1 (U4 (Z32 (Z4 (Z2 (Z1 ([])))))))))) (lL 1) (U2 (Z1 (U2 (U1 (Z4 (U32 (U4 (U2 (U1 ([])))))))))) m (Y2 (.d (.int .i64 st) :: Y2 (Y1 (.ptr 1 0 0 :: .ptr 2 0 0 :: .d (.int .i64 i9) :: .d (.int .i64 ((i:Int))) :: Y32 (Y4 (Y2 (Y1 ([])))))))) (.box [.d y1,.d y2] :: .box [.d x0,.sl 3 0 0 0,.sl 4 0 0 0] :: .box [.d (.int .i64 al),.sl 5 0 0 len,.sl 6 0 0 bl.length] :: .arr [] 0 0 :: .arr [] 0 0 :: .vec (aB 7 nx ++ aF 0) 1 0 :: .arr (aK bl) 1 0 :: aH nx) k
  = k (.exit 2) (Y2 (.d (.int .i64 st) :: Y2 (Y1 (.ptr 1 0 0 :: .ptr 2 0 0 :: .d (.int .i64 i9) :: .d (.int .i64 ((w:Int))) :: Y32 (Y4 (Y2 (Y1 ([])))))))) (.box [.d y1,.d y2] :: .box [.d x0,.sl 3 0 0 0,.sl 4 0 0 0] :: .box [.d (.int .i64 al),.sl 5 0 0 s,.sl 6 0 0 bl.length] :: .arr [] 0 0 :: .arr [] 0 0 :: .vec (aB 7 nx ++ aF 0) 1 0 :: .arr (aK bl) 1 0 :: aH (nx.set t (CJ t j i (nx.getD t [])))):=by
 intro j
 induction j with
 | zero =>
  intro i m nx len hi hm hr hnx hlen
  obtain _ | m:=m; omega
  obtain rfl:i = w:=by omega
  rw [hnx] at hlen
  subst hlen
  have hc1:¬ ((i:Int) < (i:Int)):=by omega
  have hnl:nx.length ≤ 4294967296:=by omega
  have hkd:t < nx.length:=by omega
  have hg:=aG6 hkd
  have e1:nx.set t (nx.getD t []) = nx:=by
   rw [List.getD_eq_getElem?_getD,List.getElem?_eq_getElem hkd]
   exact List.set_getElem_self hkd
  rw [CJ,e1]
  rw [N8]
  simp only [JL,Tryd.f90,SLM,simprocAttr]
  simp -implicitDefEqProofs (maxSteps:=2000000) (disch:=try exact Dz) only [↓DN,↓kAsg,↓kRet,UP,simprocAttr,LA,hx,hr,hc1,d7,eD,oV,↓IS,z0As,z0A,eq_self,vA,vH]
 | succ j ih =>
  intro i m nx len hi hm hr hnx hlen
  obtain _ | m:=m; omega
  subst hlen
  have hnl:nx.length ≤ 4294967296:=by omega
  have hkd:t < nx.length:=by omega
  have hg:=aG6 hkd
  have hc1:(i:Int) < (w:Int):=by omega
  have hk:i < (nx.getD t []).length:=by omega
  have hb1:(0:Int) ≤ i:=by omega
  have hgs:(nx.set t ((nx.getD t []).set i t)).getD t [] = (nx.getD t []).set i t:=by
   rw [List.getD_eq_getElem?_getD,List.getElem?_set_self hkd]; rfl
  have hrs:aB 7 (nx.set t ((nx.getD t []).set i t)) = aB 7 nx:=F4 (by simp)
  have ih':=ih (i + 1) m (nx.set t ((nx.getD t []).set i t)) nx.length (by omega) (by omega) (by rw [hgs]; simpa using hr) (by simpa using hnx) (by simp)
  rw [show ((i + 1:Nat):Int) = (i:Int) + 1 by omega,hgs,hrs,List.set_set] at ih'
  rw [CJ]
  have hnl2:(nx.set t ((nx.getD t []).set i t)).length ≤ 4294967296:=by rw [List.length_set]; omega
  clear ih hgs
  generalize hro:nx.getD t [] = ro at *
  rw [N8]
  simp only [JL,Tryd.f90,SLM,simprocAttr]
  simp -implicitDefEqProofs (maxSteps:=2000000) (disch:=try exact Dz) only [↓DN,↓kAsg,↓kRet,UP,simprocAttr,LA,hx,hr,hro,hg,hc1,d7,eD,oV,aOg,aBr,↓aR4,hrs,hnl2,z0As,z0A,eq_self,vA,vH,↓ih']
theorem aCf {R:Type} {L n m:Nat} {y1 y2 x0:D} {al st i9:Int} {s t:Nat} {bl:List Bool} {w:Nat} {nx:List (List Int)} (hx:st - 1 = (t:Int)) (hs:s ≤ 100) (hw:w ≤ 100) (ht:t < s) (hm:w < m) (hr:(nx.getD t []).length = w) (hnx:nx.length = s) {k:Exit → List A → H → Option R} :
  aO env (aA env L n) L 1 [] (Z2 (U1 (Z2 (Z1 (U4 (Z32 (Z4 (Z2 (Z1 ([])))))))))) (lL 1) (U2 (Z1 (U2 (U1 (Z4 (U32 (U4 (U2 (U1 ([])))))))))) m (Y2 (.d (.int .i64 st) :: Y2 (Y1 (.ptr 1 0 0 :: .ptr 2 0 0 :: .d (.int .i64 i9) :: .d (.int .i64 0) :: Y32 (Y4 (Y2 (Y1 ([])))))))) (.box [.d y1,.d y2] :: .box [.d x0,.sl 3 0 0 0,.sl 4 0 0 0] :: .box [.d (.int .i64 al),.sl 5 0 0 s,.sl 6 0 0 bl.length] :: .arr [] 0 0 :: .arr [] 0 0 :: .vec (aB 7 nx ++ aF 0) 1 0 :: .arr (aK bl) 1 0 :: aH nx) k
  = k (.exit 2) (Y2 (.d (.int .i64 st) :: Y2 (Y1 (.ptr 1 0 0 :: .ptr 2 0 0 :: .d (.int .i64 i9) :: .d (.int .i64 ((w:Int))) :: Y32 (Y4 (Y2 (Y1 ([])))))))) (.box [.d y1,.d y2] :: .box [.d x0,.sl 3 0 0 0,.sl 4 0 0 0] :: .box [.d (.int .i64 al),.sl 5 0 0 s,.sl 6 0 0 bl.length] :: .arr [] 0 0 :: .arr [] 0 0 :: .vec (aB 7 (nx.set t (CJ t w 0 (nx.getD t []))) ++ aF 0) 1 0 :: .arr (aK bl) 1 0 :: aH (nx.set t (CJ t w 0 (nx.getD t [])))):=by
 rw [F4 (by rw [XJ])]
 exact aD0 hx hs hw ht w 0 m nx s (by omega) hm hr hnx hnx.symm
theorem A4 {d:List (List Int)} {o o1 o2:O} {p:H} {k:Nat} (h:k = d.length + 2):(aH d ++ o1 :: o2 :: o :: p)[k]? = some o:=by
 subst h
 rw [List.getElem?_append_right (by rw [dQ]; omega),dQ,Nat.add_sub_cancel_left]
 rfl
theorem KS {d:List (List Int)} {o o1 o2 q:O} {p:H} {k:Nat} (h:k = d.length + 2):(aH d ++ o1 :: o2 :: o :: p).set k q = aH d ++ o1 :: o2 :: q :: p:=by
 rw [List.set_append_right _ _ (by rw [dQ]; omega),dQ,h,Nat.add_sub_cancel_left]
 rfl
theorem GL {d:List (List Int)} {o o1 o2 x:O} {p:H} {k:Nat} (h:k = d.length + 2):(aH d ++ o1 :: o2 :: o :: p).getD k x = o:=by
 rw [List.getD_eq_getElem?_getD,A4 h]; rfl
theorem aJh {c:List UInt8} (hc:c.length ≤ 2000) (al st:Int) {s:Nat} (hst:st = s) (hs:s ≤ 100) (h1:1 ≤ s) (p:Int) (hp:0 ≤ p) (hp2:p + 7 * s ≤ 1000000000) :
  ∃ (nx:List (List Int)) (ac:List Bool) (q:Int),nx.length = s ∧ ac.length = s ∧ (∀ r ∈ nx,r.length = (aD al).length) ∧ p ≤ q ∧ q ≤ p + 7 * s ∧ ∀ (L n:Nat),4 ≤ n → 2 ^ 60 ≤ L →
  aA env L n 90 [.ptr 0 0 0,.d (.int .i64 al),.d (.int .i64 st)] [rdO c p] = some (autD al nx ac,[rdO c q]):=by
 obtain ⟨nx,ac,q,g1,g2,g3,g4,g5,he⟩:=SV hc al st hst hs h1 p hp hp2
 obtain ⟨t,rfl⟩:∃ t,s = t + 1:=⟨s - 1,by omega⟩
 have hx:st - 1 = (t:Int):=by omega
 have hw:=eZ al
 have hk:t < nx.length:=by omega
 have hr:(nx.getD t []).length = (aD al).length:=by
  rw [List.getD_eq_getElem?_getD,List.getElem?_eq_getElem hk]
  exact g3 _ (List.getElem_mem hk)
 have hl1:(nx.set t (CJ t (aD al).length 0 (nx.getD t []))).length = t + 1:=by rw [List.length_set,g1]
 have hl2:(BA (t:Int) (t + 1) 0 ac).length = t + 1:=by rw [aFE,g2]
 refine ⟨nx.set t (CJ t (aD al).length 0 (nx.getD t [])),BA (t:Int) (t + 1) 0 ac,q,hl1,hl2,?_,g4,g5,fun L n hn hL => ?_⟩
 ·intro r hrm
  rcases List.mem_or_eq_of_mem_set hrm with h | h
  ·exact g3 r h
  ·rw [h,XJ,hr]
 have kd:=fun {R:Type} {n:Nat} {hq:H} {k:A → H → Option R} (hn:3 ≤ n) => aAE (R:=R) (L:=L) (n:=n) (hq:=hq) (k:=k) hn hL he
 have hnl:nx.length ≤ 4294967296:=by omega
 have loop_a:=fun {R:Type} {n:Nat} {y1 y2 x0:D} {k:Exit → List A → H → Option R} => aEo (R:=R) (L:=L) (n:=n) (y1:=y1) (y2:=y2) (x0:=x0) (al:=al) (nx:=nx) (k:=k) hx hst hs hnl (t + 1) 0 L ac ac.length (by omega) (by omega) g2 rfl
 have loop_b:=fun {R:Type} {n:Nat} {y1 y2 x0:D} {i9:Int} {k:Exit → List A → H → Option R} => aCf (R:=R) (L:=L) (n:=n) (m:=L) (y1:=y1) (y2:=y2) (x0:=x0) (al:=al) (i9:=i9) (bl:=BA (t:Int) (t + 1) 0 ac) (k:=k) hx hs (by omega) (by omega) (by omega) hr g1
 rw [hl2] at loop_b
 rw [g1,g2] at loop_a
 simp only [autA,autO,g1,g2] at kd
 simp only [Int.natCast_zero] at loop_a
 have hbl:(aK (BA (t:Int) (t + 1) 0 ac)).length = t + 1:=by rw [fO,hl2]
 generalize nx.set t (CJ t (aD al).length 0 (nx.getD t [])) = nx2 at *
 generalize BA (t:Int) (t + 1) 0 ac = ac2 at *
 have hnl2:nx2.length ≤ 4294967296:=by omega
 have hH:Has (rdO c q :: .box [.d (.int .i64 al),.sl 5 0 0 (t + 1),.sl 6 0 0 (t + 1)] :: .box [.d (.int .i64 al),.sl 5 0 0 (t + 1),.sl 6 0 0 (t + 1)] :: .arr [] 0 0 :: .arr [] 0 0 :: .vec (aB 7 nx2 ++ aF 0) 1 0 :: .arr (aK ac2) 1 0 :: aH nx2) 5 nx2 ac2:=by
  have:=YM (h:=[rdO c q,.box [.d (.int .i64 al),.sl 5 0 0 (t + 1),.sl 6 0 0 (t + 1)],.box [.d (.int .i64 al),.sl 5 0 0 (t + 1),.sl 6 0 0 (t + 1)],.arr [] 0 0,.arr [] 0 0]) (v:=5) (rs:=nx2) (ac:=ac2) (p:=[]) rfl
  simpa using this
 obtain ⟨h2,st_out,st_keep,st_trim⟩:=X7 (n:=t + 1) (m:=t + 1) (al:=al) hH (by omega) hl1.symm hl2.symm
 simp only [autD] at st_out ⊢
 clear he g3 g4 g5 hH
 obtain _ | n:=n; omega
 rw [aIY]
 simp only [aDk,Tryd.f90,SLM,simprocAttr]
 simp -implicitDefEqProofs (maxSteps:=2000000) (disch:=try exact Dz) only [↓DN,↓kAsg,↓kRet,UP,simprocAttr,LA,hbl,g1,↓kd,↓loop_a,↓loop_b,dQ,List.append_assoc,List.cons_append,List.nil_append,A4,KS,GL,↓aSf,aKI,aF0,aB7,↓IS,vA,vH,↓st_out,↓st_keep,↓st_trim,z0As,z0A,eq_self]
theorem aOW:(env.hint 90).mode = 0:=by kernel_rfl
theorem aHk:(env.hint 70).mode = 0:=by kernel_rfl
theorem aNt {c:List UInt8} (hc:c.length ≤ 2000) (al:Int) (p:Int) (hp:0 ≤ p) (hp2:p ≤ 900000000) :
  ∃ (nx:List (List Int)) (ac:List Bool) (q:Int),1 ≤ nx.length ∧ nx.length ≤ 5 ∧ ac.length = nx.length ∧ (∀ r ∈ nx,r.length = (aD al).length) ∧ p ≤ q ∧ q ≤ p + 50 ∧ (Dw 6 70 [.d (.int .i64 al)] (autD al nx ac) c p q):=by
 obtain ⟨v,v0,v1,_,kd1⟩:=jV hc p 2 hp (by omega)
 by_cases h1:v = 0
 ·subst h1
  obtain ⟨w,hw,kd2⟩:=KD hc [3,2,4,1] (by simp) (by simp) (p + 1) (by omega) (by omega)
  have hw1:1 ≤ w ∧ w ≤ 4:=by simp at hw; omega
  obtain ⟨nx,ac,q,g1,g2,g3,g4,g5,he⟩:=aJh hc al w (s:=w.toNat) (by omega) (by omega) (by omega) (p + 1 + 1) (by omega) (by omega)
  have kd3:=fun {R:Type} {L n:Nat} {hq:H} {k:A → H → Option R} (hn:4 ≤ n) (hL:2 ^ 60 ≤ L) => eO (R:=R) (h:=hq) (k:=k) aOW (by simp [idsL,idsA]) (by simp [autD,idsA,idsL]) (he L n hn hL)
  simp only [ints,List.map_cons,List.map_nil,List.length_cons,List.length_nil,Nat.zero_add,Nat.reduceAdd] at kd2
  refine ⟨nx,ac,q,by omega,by omega,by omega,g3,by omega,by omega,fun R L n hq k hn hL => eO aHk (by simp [idsL,idsA]) (by simp [autD,idsA,idsL]) ?_⟩
  unfold autD at kd3 ⊢
  clear he g3
  obtain _ | n:=n; omega
  rw [aAx]
  simp only [SB,Tryd.f70,SLM,simprocAttr]
  simp -implicitDefEqProofs (maxSteps:=2000000) (disch:=try exact Dz) only [↓DN,↓kAsg,↓kRet,UP,simprocAttr,LA,↓kd1,↓kd2,↓kd3]
 ·obtain ⟨w,hw,kd2⟩:=KD hc [2,3,1,4,5] (by simp) (by simp) (p + 1) (by omega) (by omega)
  have hw1:1 ≤ w ∧ w ≤ 5:=by simp at hw; omega
  obtain ⟨nx,ac,q,g1,g2,g3,g4,g5,he⟩:=SV hc al w (s:=w.toNat) (by omega) (by omega) (by omega) (p + 1 + 1) (by omega) (by omega)
  have kd3:=fun {R:Type} {L n:Nat} {hq:H} {k:A → H → Option R} (hn:3 ≤ n) (hL:2 ^ 60 ≤ L) => aAE (R:=R) (L:=L) (n:=n) (hq:=hq) (k:=k) hn hL he
  simp only [ints,List.map_cons,List.map_nil,List.length_cons,List.length_nil,Nat.zero_add,Nat.reduceAdd] at kd2
  simp only [autA,autO] at kd3
  refine ⟨nx,ac,q,by omega,by omega,by omega,g3,by omega,by omega,fun R L n hq k hn hL => eO aHk (by simp [idsL,idsA]) (by simp [autD,idsA,idsL]) ?_⟩
  have hH:Has (rdO c q :: .arr [] 0 0 :: .arr [] 0 0 :: .box [.d (.int .i64 al),.sl 5 0 0 nx.length,.sl 6 0 0 ac.length] :: .arr [.int .i64 2,.int .i64 3,.int .i64 1,.int .i64 4,.int .i64 5] 1 0 :: .vec (aB 7 nx ++ aF 0) 1 0 :: .arr (aK ac) 1 0 :: aH nx) 5 nx ac:=by
   have:=YM (h:=[rdO c q,.arr [] 0 0,.arr [] 0 0,.box [.d (.int .i64 al),.sl 5 0 0 nx.length,.sl 6 0 0 ac.length],.arr [.int .i64 2,.int .i64 3,.int .i64 1,.int .i64 4,.int .i64 5] 1 0]) (v:=5) (rs:=nx) (ac:=ac) (p:=[]) rfl
   simpa using this
  obtain ⟨h2,st_out,st_keep,st_trim⟩:=X7 (n:=nx.length) (m:=ac.length) (al:=al) hH (by omega) rfl rfl
  unfold autD at st_out ⊢
  clear he g3 hH
  obtain _ | n:=n; omega
  rw [aAx]
  simp only [SB,Tryd.f70,SLM,simprocAttr]
  simp -implicitDefEqProofs (maxSteps:=2000000) (disch:=try exact Dz) only [↓DN,↓kAsg,↓kRet,UP,simprocAttr,LA,h1,↓kd1,↓kd2,↓kd3,↓st_out,↓st_keep,↓st_trim]
def aCl:Nat → List D → Bool
 | 0,[] => true
 | n + 1,.int .i64 _ :: ds => aCl n ds
 | _,_ => false
def aDj (w:Nat):Nat → List D → Bool
 | 0,[] => true
 | n + 1,.ivs k cs :: ds => aCl k cs && (k == w) && aDj w n ds
 | _,_ => false
def WB:Nat → List D → Bool
 | 0,[] => true
 | n + 1,.bool _ :: ds => WB n ds
 | _,_ => false
def kO:Option (A × H) → Bool
 | some (.tup [.agg [.d (.int .i64 al),.d (.ivs n rs),.d (.ivs m bs)],.d (.bool true)],[]) => aDj (aD al).length n rs && WB m bs && (m == n) && decide (1 ≤ n ∧ n ≤ 12)
 | _ => false
def A8:List (List UInt8):=[[97,98,32,43,49,44,48,32,45,49,44,49],[97,98,32,43,48,44,49,32,43,50,44,49,32,45,50,44,50],[97,99,32,43,49,44,50,32,43,49,44,50,32,45,50,44,50],[98,32,43,49,32,45,49],[97,98,99,32,43,49,44,48,44,50,32,43,50,44,48,44,49,32,45,50,44,50,44,50],[45,32,43],[45,32,45],[97,32,43,49,32,45,48],[97,98,32,43,48,44,49,32,45,48,44,49],[98,99,32,43,49,44,50,32,43,50,44,48,32,45,50,44,50],[97,98,32,43,49,44,50,32,45,49,44,51,32,43,52,44,50,32,45,49,44,51,32,43,52,44,50],[97,98,99,32,43,48,44,49,44,48,32,43,48,44,49,44,50,32,45,50,44,50,44,50]]
theorem aPd:kO (aA env 3000 12 67 [.d (.str [97,98,32,43,49,44,50,32,45,49,44,51,32,43,52,44,50,32,45,49,44,51,32,43,52,44,50])] []) = true:=by kernel_rfl
theorem aR5:kO (aA env 3000 12 67 [.d (.str [45,32,45])] []) = true:=by kernel_rfl
theorem aSl:kO (aA env 3000 12 67 [.d (.str [97,98,99,32,43,49,44,48,44,50,32,43,50,44,48,44,49,32,45,50,44,50,44,50])] []) = true:=by kernel_rfl
theorem aRX:kO (aA env 3000 12 67 [.d (.str [45,32,43])] []) = true:=by kernel_rfl
theorem aO2:kO (aA env 3000 12 67 [.d (.str [97,98,99,32,43,48,44,49,44,48,32,43,48,44,49,44,50,32,45,50,44,50,44,50])] []) = true:=by kernel_rfl
theorem aSr:kO (aA env 3000 12 67 [.d (.str [97,32,43,49,32,45,48])] []) = true:=by kernel_rfl
theorem aRT:kO (aA env 3000 12 67 [.d (.str [97,98,32,43,48,44,49,32,43,50,44,49,32,45,50,44,50])] []) = true:=by kernel_rfl
theorem aSM:kO (aA env 3000 12 67 [.d (.str [98,32,43,49,32,45,49])] []) = true:=by kernel_rfl
theorem aSk:kO (aA env 3000 12 67 [.d (.str [97,99,32,43,49,44,50,32,43,49,44,50,32,45,50,44,50])] []) = true:=by kernel_rfl
theorem aSh:kO (aA env 3000 12 67 [.d (.str [97,98,32,43,48,44,49,32,45,48,44,49])] []) = true:=by kernel_rfl
theorem aSj:kO (aA env 3000 12 67 [.d (.str [98,99,32,43,49,44,50,32,43,50,44,48,32,45,50,44,50])] []) = true:=by kernel_rfl
theorem aSx:kO (aA env 3000 12 67 [.d (.str [97,98,32,43,49,44,48,32,45,49,44,49])] []) = true:=by kernel_rfl
theorem aN2:∀ t ∈ A8,kO (aA env 3000 12 67 [.d (.str t)] []) = true:=by
 intro t ht
 simp only [A8,List.mem_cons,List.not_mem_nil,or_false] at ht
 rcases ht with rfl | rfl | rfl | rfl | rfl | rfl | rfl | rfl | rfl | rfl | rfl | rfl
 ·exact aSx
 ·exact aRT
 ·exact aSk
 ·exact aSM
 ·exact aSl
 ·exact aRX
 ·exact aR5
 ·exact aSr
 ·exact aSh
 ·exact aSj
 ·exact aPd
 ·exact aO2
section
def More (c1 c2:a9):Prop:=∀ f args h r,c1 f args h = some r → c2 f args h = some r
section
variable {E:Env} {c1 c2:a9} (hc:More c1 c2)
include hc
theorem aC8 {hint:FuncId → Hint} {h:H} {f:FuncId} {args:List A} {r:A × H} (he:dX c1 hint h f args = some r):dX c2 hint h f args = some r:=by
 unfold dX at he ⊢
 generalize (hint f).mode = m at *
 have key:∀ (fs:List A) (g:Option (A × H) → Option (A × H)),g none = none → g (c1 f fs []) = some r → g (c2 f fs []) = some r:=by
  intro fs g h0 h1
  cases h2:c1 f fs [] with
  | none => rw [h2,h0] at h1; cases h1
  | some q => rw [h2] at h1; rw [hc _ _ _ _ h2]; exact h1
 match m with
 | 0 => exact hc _ _ _ _ he
 | 1 =>
  simp only at he ⊢
  cases hf:jB h args with
  | none => rw [hf] at he; cases he
  | some q => rw [hf] at he; exact key q.1 (fun o => match o with | some (r,[]) => if m6 r then some (r,h) else none | _ => none) rfl he
 | 3 =>
  simp only at he ⊢
  cases hf:jB h args with
  | none => rw [hf] at he; cases he
  | some q => rw [hf] at he; exact key q.1 (fun o => match o with | some (r,h2) => if qC r && h2.all oL then some (mapA (back [] h.length h2.length) r,h ++ h2.map (mapO (back [] h.length h2.length))) else none | none => none) rfl he
 | 2 =>
  simp only at he ⊢
  cases hf:jB h args with
  | none => rw [hf] at he; cases he
  | some q => rw [hf] at he; exact key q.1 (fun o => match o with | some (r,[]) => some (r,q.2) | some (r,h2) => some (mapA (back [] q.2.length h2.length) r,q.2 ++ h2.map (mapO (back [] q.2.length h2.length))) | none => none) rfl he
 | m + 4 =>
  simp only at he ⊢
  cases hf:jB h args with
  | none => rw [hf] at he; cases he
  | some q => rw [hf] at he; exact key q.1 (fun o => match o with | some (r,[]) => some (r,q.2) | some (r,h2) => some (mapA (back [] q.2.length h2.length) r,q.2 ++ h2.map (mapO (back [] q.2.length h2.length))) | none => none) rfl he
theorem aHf {hint:FuncId → Hint} {h:H} {c:A} {args:List A} {r:A × H} (he:jS c1 hint h c args = some r):jS c2 hint h c args = some r:=by
 unfold jS at he ⊢
 split at he
 ·exact aC8 hc he
 ·exact aC8 hc he
 ·cases he
theorem aGy {h:H} {c:Callee} {tys:List TypeId} {vs:List A} {r:A × H} (he:fI E c1 h c tys vs = some r):fI E c2 h c tys vs = some r:=by
 unfold fI at he ⊢
 split at he
 ·split at he
  ·exact aHf hc he
  ·cases he
 ·exact he
 ·cases he
theorem OV {thaw:List Nat} {h:H} {o:Oper} {vs:List A} {r:A × H} (he:evOp E c1 thaw h o vs = some r):evOp E c2 thaw h o vs = some r:=by
 unfold evOp at he ⊢
 split at he <;> first | exact aGy hc he | exact he
theorem aC5 {thaw:List Nat} {h:H} {o:Oper} {vs:List A} {r:A × H × List Nat × Nat} (he:mF E c1 thaw h o vs = some r):mF E c2 thaw h o vs = some r:=by
 unfold mF at he ⊢
 simp only at he ⊢
 split at he
 ·rename_i a h1 h2
  rw [OV hc h2]
  exact he
 ·cases he
theorem aI7 {thaw:List Nat} {ops:List Oper} {o:Oper} {s:List A} {h:H} {r:List A × H} (he:FD E c1 thaw ops o s h = some r):FD E c2 thaw ops o s h = some r:=by
 unfold FD at he ⊢
 cases hw:uF ops s o with
 | none => rw [hw] at he; cases he
 | some b =>
  rw [hw] at he
  cases b with
  | false => exact he
  | true =>
   simp only at he ⊢
   cases hv:cA s (opds o.op) with
   | none => rw [hv] at he; cases he
   | some vs =>
    rw [hv] at he
    simp only at he ⊢
    by_cases hi:bY o.op = true
    ·rw [if_pos hi] at he ⊢
     cases hf:mF E c1 thaw h o vs with
     | none => rw [hf] at he; cases he
     | some q => rw [hf] at he; rw [aC5 hc hf]; exact he
    ·rw [if_neg hi] at he ⊢
     cases hf:evOp E c1 thaw h o vs with
     | none => rw [hf] at he; cases he
     | some q => rw [hf] at he; rw [OV hc hf]; exact he
theorem aDd {thaw:List Nat} {ops:List Oper}:∀ {os:List Oper} {s:List A} {h:H} {r:List A × H},yL E c1 thaw ops os s h = some r → yL E c2 thaw ops os s h = some r
 | [],s,h,r,he => he
 | o :: os,s,h,r,he => by
  unfold yL at he ⊢
  cases hs:FD E c1 thaw ops o s h with
  | none => rw [hs] at he; cases he
  | some q => rw [hs] at he; rw [aI7 hc hs]; exact aDd he
theorem aIw {thaw:List Nat} {ops:List Oper} {o:Oper} {s:List A} {h:H} {r:List A × H × Foot} (he:zW E c1 thaw ops o s h = some r):zW E c2 thaw ops o s h = some r:=by
 unfold zW at he ⊢
 cases hw:uF ops s o with
 | none => rw [hw] at he; cases he
 | some b =>
  rw [hw] at he
  cases b with
  | false => exact he
  | true =>
   simp only at he ⊢
   cases hv:cA s (opds o.op) with
   | none => rw [hv] at he; cases he
   | some vs =>
    rw [hv] at he
    simp only at he ⊢
    by_cases hi:cQ o.op = true
    ·rw [if_pos hi] at he ⊢
     cases hf:evOp E c1 thaw h o vs with
     | none => rw [hf] at he; cases he
     | some q => rw [hf] at he; rw [OV hc hf]; exact he
    ·rw [if_neg hi] at he ⊢
     by_cases hj:oB o.op = true
     ·rw [if_pos hj] at he ⊢
      cases hf:evOp E c1 thaw h o vs with
      | none => rw [hf] at he; cases he
      | some q => rw [hf] at he; rw [OV hc hf]; exact he
     rw [if_neg hj] at he ⊢
     cases hf:mF E c1 thaw h o vs with
     | none => rw [hf] at he; cases he
     | some q => rw [hf] at he; rw [aC5 hc hf]; exact he
theorem ZG {thaw:List Nat} {ops:List Oper}:∀ {os:List Oper} {s:List A} {h:H} {r:List A × H × List Foot},oM E c1 thaw ops os s h = some r → oM E c2 thaw ops os s h = some r
 | [],s,h,r,he => he
 | o :: os,s,h,r,he => by
  unfold oM at he ⊢
  cases hs:zW E c1 thaw ops o s h with
  | none => rw [hs] at he; cases he
  | some q =>
   rw [hs] at he
   rw [aIw hc hs]
   simp only at he ⊢
   cases h2:oM E c1 thaw ops os q.1 q.2.1 with
   | none => rw [h2] at he; cases he
   | some z => rw [h2] at he; rw [ZG h2]; exact he
theorem aGn {thaw:List Nat} {ops:Array Oper} {draw:Bool} {s:List A} {h:H} {r:List A × H} (he:pO E c1 thaw ops draw s h = some r):pO E c2 thaw ops draw s h = some r:=by
 unfold pO at he ⊢
 by_cases hd:draw = true
 ·rw [if_pos hd] at he ⊢
  cases ho:oM E c1 thaw ops.toList ops.toList s h with
  | none => rw [ho] at he; cases he
  | some q => rw [ho] at he; rw [ZG hc ho]; exact he
 ·rw [if_neg hd] at he ⊢
  exact aDd hc he
end
theorem aAD {b1 b2:List A → H → Option (Exit × List A × H)} (hb:∀ s h r,b1 s h = some r → b2 s h = some r) {nf:Nat} {m:List Bool}:∀ {n1 n2:Nat} {s:List A} {h:H} {r:Exit × List A × H},n1 ≤ n2 → u3 b1 nf m n1 s h = some r → u3 b2 nf m n2 s h = some r
 | 0,n2,s,h,r,_,he => by simp [u3] at he
 | n1 + 1,0,s,h,r,hn,he => by omega
 | n1 + 1,n2 + 1,s,h,r,hn,he => by
  unfold u3 at he ⊢
  cases hs:b1 s h with
  | none => rw [hs] at he; cases he
  | some q =>
   rw [hs] at he
   rw [hb _ _ _ hs]
   obtain ⟨e,s1,h1⟩:=q
   cases e with
   | normal => exact aAD hb (by omega) he
   | _ => exact he
theorem aI0 {E:Env} {c1 c2:a9} (hc:More c1 c2) {L1 L2 nf:Nat} (hL:L1 ≤ L2) {thaw:List Nat} {live:List Bool}:∀ (c:Code) {s:List A} {h:H} {r:Exit × List A × H},dG E c1 L1 nf thaw live c s h = some r → dG E c2 L2 nf thaw live c s h = some r:=by
 intro c
 induction c with
 | region i ops draw =>
  intro s h r he
  unfold dG at he ⊢
  cases hr:pO E c1 thaw ops draw s h with
  | none => rw [hr] at he; cases he
  | some q => rw [hr] at he; rw [aGn hc hr]; exact he
 | seq a b iha ihb =>
  intro s h r he
  unfold dG at he ⊢
  cases ha:dG E c1 L1 nf thaw live a s h with
  | none => rw [ha] at he; cases he
  | some q =>
   rw [ha] at he
   rw [iha ha]
   obtain ⟨e,s1,h1⟩:=q
   cases e with
   | normal => exact ihb he
   | _ => exact he
 | cond x a b iha ihb =>
  intro s h r he
  unfold dG at he ⊢
  cases hv:dT s x with
  | none => rw [hv] at he; cases he
  | some v =>
   rw [hv] at he
   cases v with
   | d y =>
    cases y with
    | bool b =>
     cases b with
     | true => exact iha he
     | false => exact ihb he
    | _ => cases he
   | _ => cases he
 | block i a iha =>
  intro s h r he
  unfold dG at he ⊢
  cases ha:dG E c1 L1 nf thaw live a s h with
  | none => rw [ha] at he; cases he
  | some q => rw [ha] at he; rw [iha ha]; exact he
 | loop a iha =>
  intro s h r he
  unfold dG at he ⊢
  exact aAD (fun s h r => iha) hL he
 | _ => intro s h r he; simp only [dG] at he ⊢; first | exact he | cases he
theorem aJb {E:Env} {c1 c2:a9} (hc:More c1 c2) {L1 L2:Nat} (hL:L1 ≤ L2) {f:FuncId} {fn:Func} {c:Code} {args:List A} {h:H} {r:A × H} (he:K4 E c1 L1 f fn c args h = some r):K4 E c2 L2 f fn c args h = some r:=by
 unfold K4 at he ⊢
 split at he
 ·rename_i e s h1 hcd
  rw [aI0 hc hL c hcd]
  exact he
 ·cases he
theorem Z7 {E:Env} {L1 L2:Nat} (hL:L1 ≤ L2):∀ {n1 n2:Nat},n1 ≤ n2 → More (aA E L1 n1) (aA E L2 n2)
 | 0,n2,_ => by intro f args h r he; simp [aA] at he
 | n1 + 1,0,hn => by omega
 | n1 + 1,n2 + 1,hn => by
  intro f args h r he
  have ih:=Z7 (E:=E) hL (n1:=n1) (n2:=n2) (by omega)
  unfold aA at he ⊢
  cases hp:E.prim f with
  | some g => rw [hp] at he; exact he
  | none =>
   rw [hp] at he
   simp only at he ⊢
   cases hf:E.P.funcs[f]? with
   | none => rw [hf] at he; cases he
   | some fn =>
    rw [hf] at he
    simp only at he ⊢
    cases hb:fn.body with
    | none => rw [hb] at he; cases he
    | some c =>
     rw [hb] at he
     simp only at he ⊢
     by_cases hnm : (fn.name == "runtime.NumGoroutine") = true
     ·rw [if_pos hnm] at he; cases he
     ·rw [if_neg hnm] at he ⊢
      exact aJb ih hL he
end
theorem aB2:∀ (n:Nat) (cs:List D),aCl n cs = true → ∃ l:List Int,l.length = n ∧ cs = ints l
 | 0,[],_ => ⟨[],rfl,rfl⟩
 | 0,_ :: _,h => by simp [aCl] at h
 | n + 1,cs,h => by
  unfold aCl at h
  split at h
  ·exfalso; omega
  ·rename_i m a ds heq
   cases heq
   obtain ⟨l,h1,h2⟩:=aB2 n _ h
   exact ⟨a :: l,by simp [h1],by rw [h2]; rfl⟩
  ·cases h
theorem VB:∀ (n:Nat) (cs:List D),WB n cs = true → ∃ l:List Bool,l.length = n ∧ cs = aK l
 | 0,[],_ => ⟨[],rfl,rfl⟩
 | 0,_ :: _,h => by simp [WB] at h
 | n + 1,cs,h => by
  unfold WB at h
  split at h
  ·exfalso; omega
  ·rename_i m a ds heq
   cases heq
   obtain ⟨l,h1,h2⟩:=VB n _ h
   exact ⟨a :: l,by simp [h1],by rw [h2]; rfl⟩
  ·cases h
theorem aDe (w:Nat):∀ (n:Nat) (cs:List D),aDj w n cs = true → ∃ l:List (List Int),l.length = n ∧ (∀ r ∈ l,r.length = w) ∧ cs = aJ l
 | 0,[],_ => ⟨[],rfl,by simp,rfl⟩
 | 0,_ :: _,h => by simp [aDj] at h
 | n + 1,cs,h => by
  unfold aDj at h
  split at h
  ·exfalso; omega
  ·rename_i m k rs ds heq
   cases heq
   simp only [Bool.and_eq_true,beq_iff_eq] at h
   obtain ⟨r,h3,h4⟩:=aB2 k _ h.1.1
   obtain ⟨l,h1,h2,h5⟩:=aDe w n _ h.2
   refine ⟨r :: l,by simp [h1],?_,?_⟩
   ·intro x hx
    rcases List.mem_cons.1 hx with rfl | hx
    ·rw [h3,h.1.2]
    ·exact h2 x hx
   ·rw [h5,h4,← h3]
    rfl
  ·cases h
theorem aMC {r:Option (A × H)} (h:kO r = true):∃ (al:Int) (nx:List (List Int)) (ac:List Bool),1 ≤ nx.length ∧ nx.length ≤ 12 ∧ ac.length = nx.length ∧ (∀ r ∈ nx,r.length = (aD al).length) ∧ r = some (.tup [autD al nx ac,.d (.bool true)],[]):=by
 unfold kO at h
 split at h
 ·rename_i al n rs m bs
  simp only [Bool.and_eq_true,decide_eq_true_eq,beq_iff_eq] at h
  obtain ⟨⟨⟨h1,h2⟩,h3⟩,h4,h5⟩:=h
  obtain ⟨l,g1,g2,g3⟩:=aDe _ _ _ h1
  obtain ⟨b,g4,g5⟩:=VB _ _ h2
  subst g3; subst g5
  refine ⟨al,l,b,by omega,by omega,by omega,g2,?_⟩
  unfold autD
  rw [g1,g4]
 ·cases h
theorem YR {t:List UInt8} (ht:t ∈ A8):∃ (al:Int) (nx:List (List Int)) (ac:List Bool),1 ≤ nx.length ∧ nx.length ≤ 12 ∧ ac.length = nx.length ∧ (∀ r ∈ nx,r.length = (aD al).length) ∧ ∀ (L n:Nat),12 ≤ n → 2 ^ 60 ≤ L → aA env L n 67 [.d (.str t)] [] = some (.tup [autD al nx ac,.d (.bool true)],[]):=by
 obtain ⟨al,nx,ac,h1,h2,h3,h4,h5⟩:=aMC (aN2 t ht)
 exact ⟨al,nx,ac,h1,h2,h3,h4,fun L n hn hL => Z7 (by omega) hn _ _ _ _ h5⟩
theorem aHt:(env.hint 47).mode = 0:=by kernel_rfl
theorem aIP {L n:Nat} (hn:1 ≤ n):aA env L n 69 [] [] = some (.d (.ivs 12 (bV A8)),[]):=by
 obtain _ | n:=n; omega
 kernel_rfl
theorem XL {R:Type} {L n:Nat} {hq:H} {k:A → H → Option R} (hn:1 ≤ n):aL env (aA env L n) hq 69 [] k = k (.d (.ivs 12 (bV A8))) hq :=
 a5 rfl (aIP hn) rfl (.inr rfl)
theorem aON {c:List UInt8} (hc:c.length ≤ 2000) (p:Int) (hp:0 ≤ p) (hp2:p ≤ 800000000) :
  ∃ (al:Int) (nx:List (List Int)) (ac:List Bool) (q:Int),1 ≤ nx.length ∧ nx.length ≤ 12 ∧ ac.length = nx.length ∧ (∀ r ∈ nx,r.length = (aD al).length) ∧ p ≤ q ∧ q ≤ p + 60 ∧ (Dw 14 47 [] (autD al nx ac) c p q):=by
 obtain ⟨v,v0,v1,_,kd1⟩:=jV hc p 3 hp (by omega)
 by_cases hv:v = 0
 ·subst hv
  obtain ⟨t,ht,kd2⟩:=aSV hc A8 (by simp [A8]) (by simp [A8]) (p + 1) (by omega) (by omega)
  have e11:A8.length = 12:=rfl
  rw [e11] at kd2
  obtain ⟨al,nx,ac,g1,g2,g3,g4,he⟩:=YR ht
  have kc_p:∀ {R:Type} {L n:Nat} {hq:H} {k:A → H → Option R},12 ≤ n → 2 ^ 60 ≤ L → aL env (aA env L n) hq 67 [.d (.str t)] k = k (.tup [autD al nx ac,.d (.bool true)]) hq:=fun hn hL => a5 rfl (he _ _ hn hL) rfl (.inr rfl)
  refine ⟨al,nx,ac,p + 1 + 1,g1,g2,g3,g4,by omega,by omega,fun R L n hq k hn hL => eO aHt rfl (by simp [autD,idsA,idsL]) ?_⟩
  unfold autD at kc_p ⊢
  clear he g4
  obtain _ | n:=n; omega
  rw [aAk]
  simp only [SM,Tryd.f47,SLM,simprocAttr]
  simp -implicitDefEqProofs (maxSteps:=2000000) (disch:=try exact Dz) only [↓DN,↓kAsg,↓kRet,UP,simprocAttr,↓XL,LA,↓kd1,↓kd2,↓kc_p]
 ·obtain ⟨al,_,kd2⟩:=KD hc [3,6,7,5,1,0,2] (by simp) (by simp) (p + 1) (by omega) (by omega)
  obtain ⟨nx,ac,q,g1,g2,g3,g4,g5,g6,kd3⟩:=aNt hc al (p + 1 + 1) (by omega) (by omega)
  simp only [ints,List.map_cons,List.map_nil,List.length_cons,List.length_nil,Nat.zero_add,Nat.reduceAdd] at kd2
  refine ⟨al,nx,ac,q,g1,by omega,g3,g4,by omega,by omega,fun R L n hq k hn hL => eO aHt rfl (by simp [autD,idsA,idsL]) ?_⟩
  unfold autD at kd3 ⊢
  clear g4
  obtain _ | n:=n; omega
  rw [aAk]
  simp only [SM,Tryd.f47,SLM,simprocAttr]
  simp -implicitDefEqProofs (maxSteps:=2000000) (disch:=try exact Dz) only [↓DN,↓kAsg,↓kRet,UP,simprocAttr,↓XL,LA,hv,↓kd1,↓kd2,↓kd3]
theorem aAi {d:List (List Int)}:(aJ d).take d.length = aJ d:=by
 rw [List.take_of_length_le (by simp [aJ])]
theorem aJL {d:List (List Int)} {x y:Int}:aJ d ++ [.ivs 2 [.int .i64 x,.int .i64 y]] = aJ (d ++ [[x,y]]):=by
 simp [aJ,rowD,ints]
theorem aLq {d:List (List Int)}:(aJ d).length = d.length:=by simp [aJ]
theorem aGm {c:List UInt8} (hc:c.length ≤ 2000):∀ (j i:Nat) (p:Int) (d:List (List Int)) (bl:List Bool) (hi:i + j = 12) (h1:1 ≤ i) (hd:d.length = i) (hb:bl.length = i) (hr:∀ r ∈ d,r.length = 2) (hp:0 ≤ p) (hp2:p + 2 * j ≤ 1000000000),
  ∃ (d2:List (List Int)) (bl2:List Bool) (q:Int),d2.length = 12 ∧ bl2.length = 12 ∧ (∀ r ∈ d2,r.length = 2) ∧ p ≤ q ∧ q ≤ p + 2 * j ∧ ∀ (R:Type) (L n m:Nat) (k:Exit → List A → H → Option R),2 ≤ n → 2 ^ 60 ≤ L → j < m →
  aO env (aA env L n) L 1 [] (U1 (Z1 (U2 (U1 (Z16 (Z8 (Z4 (Z2 (Z1 ([])))))))))) (vX 0) (Z1 (U1 (Z2 (Z1 (U16 (U8 (U4 (U2 (U1 ([])))))))))) m (.ptr 0 0 0 :: Y1 (.ptr 1 0 0 :: .ptr 2 0 0 :: .d (.int .i64 ((i:Int))) :: Y16 (Y8 (Y4 (Y2 (Y1 ([]))))))) (rdO c p :: .box [.d (.int .i64 0),.sl 3 0 0 0,.sl 4 0 0 0] :: .box [.d (.int .i64 3),.sl 5 0 0 d.length,.sl 6 0 0 bl.length] :: .arr [] 0 0 :: .arr [] 0 0 :: .arr (aJ d) 1 0 :: .arr (aK bl) 1 0 :: []) k
  = k (.exit 0) (.ptr 0 0 0 :: Y1 (.ptr 1 0 0 :: .ptr 2 0 0 :: .d (.int .i64 12) :: Y16 (Y8 (Y4 (Y2 (Y1 ([]))))))) (rdO c q :: .box [.d (.int .i64 0),.sl 3 0 0 0,.sl 4 0 0 0] :: .box [.d (.int .i64 3),.sl 5 0 0 d2.length,.sl 6 0 0 bl2.length] :: .arr [] 0 0 :: .arr [] 0 0 :: .arr (aJ d2) 1 0 :: .arr (aK bl2) 1 0 :: []):=by
 intro j
 induction j with
 | zero =>
  intro i p d bl hi h1 hd hb hr hp hp2
  obtain rfl:i = 12:=by omega
  refine ⟨d,bl,p,hd,hb,hr,by omega,by omega,fun R L n m k hn hL hm => ?_⟩
  obtain _ | m:=m; omega
  have e12:((12:Nat):Int) = 12:=rfl
  rw [e12]
  rw [EL]
  simp only [EZ,Tryd.f50,SLM,simprocAttr]
  simp -implicitDefEqProofs (maxSteps:=2000000) (disch:=try exact Dz) only [↓DN,↓kAsg,↓kRet,UP,simprocAttr,LA,Int.lt_irrefl]
 | succ j ih =>
  intro i p d bl hi h1 hd hb hr hp hp2
  obtain ⟨x,hx,kd1⟩:=KD hc [(i:Int),0,11] (by simp) (by simp) p hp (by omega)
  obtain ⟨v,v0,v1,_,kd2⟩:=jV hc (p + 1) 5 (by omega) (by omega)
  obtain ⟨d2,bl2,q,g1,g2,g3,g4,g5,kd3⟩:=ih (i + 1) (p + 1 + 1) (d ++ [[((i:Int) + 1).tmod 12,x]]) (bl ++ [decide (v = 0)]) (by omega) (by omega) (by simp [hd]) (by simp [hb]) (by
   intro r hrm
   rcases List.mem_append.1 hrm with h | h
   ·exact hr r h
   ·simp at h; subst h; rfl) (by omega) (by omega)
  refine ⟨d2,bl2,q,g1,g2,g3,by omega,by omega,fun R L n m k hn hL hm => ?_⟩
  obtain _ | m:=m; omega
  have kd3':=kd3 R L n m k hn hL (by omega)
  rw [show ((i + 1:Nat):Int) = (i:Int) + 1 by omega] at kd3'
  simp only [List.length_append,List.length_cons,List.length_nil,Nat.zero_add] at kd3'
  have hc1:(i:Int) < 12:=by omega
  have hc2:¬ ((i:Int) = 0):=by omega
  have hb1:(0:Int) ≤ i:=by omega
  have hdl:d.length ≤ 12:=by omega
  have hbl:bl.length ≤ 12:=by omega
  simp only [ints,List.map_cons,List.map_nil,List.length_cons,List.length_nil,Nat.zero_add,Nat.reduceAdd] at kd1
  clear ih kd3 hr g3
  rw [EL]
  simp only [EZ,Tryd.f50,SLM,simprocAttr]
  simp -implicitDefEqProofs (maxSteps:=2000000) (disch:=try exact Dz) only [↓DN,↓kAsg,↓kRet,UP,simprocAttr,LA,hc1,hc2,↓kd1,↓kd2,aAi,aJL,aLq,fO,oX,x3,List.length_append,↓kd3',Nat.sub_self,List.range'_zero]
theorem Y0 {c:List UInt8} (hc:c.length ≤ 2000) (p:Int) (hp:0 ≤ p) (hp2:p ≤ 900000000) :
  ∃ (d2:List (List Int)) (bl2:List Bool) (q:Int),d2.length = 12 ∧ bl2.length = 12 ∧ (∀ r ∈ d2,r.length = 2) ∧ p ≤ q ∧ q ≤ p + 40 ∧ ∀ (R:Type) (L n m:Nat) (k:Exit → List A → H → Option R),2 ≤ n → 2 ^ 60 ≤ L → 12 < m →
  aO env (aA env L n) L 1 [] (U1 (Z1 (U2 (U1 (Z16 (Z8 (Z4 (Z2 (Z1 ([])))))))))) (vX 0) (Z1 (U1 (Z2 (Z1 (U16 (U8 (U4 (U2 (U1 ([])))))))))) m (.ptr 0 0 0 :: Y1 (.ptr 1 0 0 :: .ptr 2 0 0 :: .d (.int .i64 0) :: Y16 (Y8 (Y4 (Y2 (Y1 ([]))))))) (rdO c p :: .box [.d (.int .i64 0),.sl 3 0 0 0,.sl 4 0 0 0] :: .box [.d (.int .i64 3),.sl 5 0 0 0,.sl 6 0 0 0] :: .arr [] 0 0 :: .arr [] 0 0 :: .arr [] 0 0 :: .arr [] 0 0 :: []) k
  = k (.exit 0) (.ptr 0 0 0 :: Y1 (.ptr 1 0 0 :: .ptr 2 0 0 :: .d (.int .i64 12) :: Y16 (Y8 (Y4 (Y2 (Y1 ([]))))))) (rdO c q :: .box [.d (.int .i64 0),.sl 3 0 0 0,.sl 4 0 0 0] :: .box [.d (.int .i64 3),.sl 5 0 0 d2.length,.sl 6 0 0 bl2.length] :: .arr [] 0 0 :: .arr [] 0 0 :: .arr (aJ d2) 1 0 :: .arr (aK bl2) 1 0 :: []):=by
 obtain ⟨x,hx,kd1⟩:=KD hc [0,0,11] (by simp) (by simp) p hp (by omega)
 obtain ⟨d2,bl2,q,g1,g2,g3,g4,g5,kd3⟩:=aGm hc 11 1 (p + 1) [[1,x]] [true] (by omega) (by omega) rfl rfl (by simp) (by omega) (by omega)
 refine ⟨d2,bl2,q,g1,g2,g3,by omega,by omega,fun R L n m k hn hL hm => ?_⟩
 obtain _ | m:=m; omega
 have kd3':=kd3 R L n m k hn hL (by omega)
 simp only [ints,List.map_cons,List.map_nil,List.length_cons,List.length_nil,Nat.zero_add,Nat.reduceAdd] at kd1
 have e1:aJ [[1,x]] = [.ivs 2 [.int .i64 1,.int .i64 x]]:=rfl
 have e2:aK [true] = [.bool true]:=rfl
 have e3:((1:Nat):Int) = 1:=rfl
 rw [e1,e2,e3] at kd3'
 simp only [List.length_cons,List.length_nil,Nat.zero_add] at kd3'
 clear kd3
 rw [EL]
 simp only [EZ,Tryd.f50,SLM,simprocAttr]
 simp -implicitDefEqProofs (maxSteps:=2000000) (disch:=try exact Dz) only [↓DN,↓kAsg,↓kRet,UP,simprocAttr,LA,↓kd1,↓kd3',Nat.sub_self,List.range'_zero]
theorem aLf {c:List UInt8} (hc:c.length ≤ 2000) (p:Int) (hp:0 ≤ p) (hp2:p ≤ 900000000) :
  ∃ (nx:List (List Int)) (ac:List Bool) (q:Int),nx.length = 12 ∧ ac.length = 12 ∧ (∀ r ∈ nx,r.length = (aD 3).length) ∧ p ≤ q ∧ q ≤ p + 40 ∧ ∀ (L n:Nat),3 ≤ n → 2 ^ 60 ≤ L →
  aA env L n 50 [.ptr 0 0 0] [rdO c p] = some (autD 3 nx ac,[rdO c q]):=by
 obtain ⟨d2,bl2,q,g1,g2,g3,g4,g5,kd⟩:=Y0 hc p hp hp2
 refine ⟨d2,bl2,q,g1,g2,g3,by omega,by omega,fun L n hn hL => ?_⟩
 have loop_a:=fun {R:Type} {n:Nat} {k:Exit → List A → H → Option R} (hn:2 ≤ n) => kd R L n L k hn hL (by omega)
 have hr1:=A5 (l:=d2)
 have hb1:=fO (l:=bl2)
 unfold autD
 clear kd g3
 obtain _ | n:=n; omega
 rw [aKK]
 simp only [aGf,Tryd.f50,SLM,simprocAttr]
 simp -implicitDefEqProofs (maxSteps:=2000000) (disch:=try exact Dz) only [↓DN,↓kAsg,↓kRet,UP,simprocAttr,LA,↓loop_a,hr1,hb1,aAi,Nat.le_refl,oX]
theorem U7 {d:List (List Int)} {o o1 o2 o3:O} {p:H} {k:Nat} (h:k = d.length + 3):(aH d ++ o1 :: o2 :: o3 :: o :: p)[k]? = some o:=by
 subst h
 rw [List.getElem?_append_right (by rw [dQ]; omega),dQ,Nat.add_sub_cancel_left]
 rfl
theorem vF {t:H} {y1 y2:D} {v w n m gv gw:Nat} {al:Int} {rs:List (List Int)} {ac:List Bool} (k1:rd1 (.box [.d y1,.d y2] :: t) (.sl v gv 0 n) = some (.ivs rs.length (aJ rs))) (k2:rd1 (.box [.d y1,.d y2] :: t) (.sl w gw 0 m) = some (.ivs ac.length (aK ac))) (hv:1 ≤ v) (hw:1 ≤ w) :
  ∃ h2,rI 1 false (.box [.d y1,.d y2] :: t) [.agg [.d (.int .i64 al),.sl v gv 0 n,.sl w gw 0 m]] = some ([autD al rs ac],h2) ∧ aC 1099511627776 h2 (fU (List.take 1 h2)) [0] = [0] ∧ List.getD h2 0 default = .box [.d y1,.d y2]:=by
 obtain ⟨ha,e1,i1⟩:=YG 4 (aFl _) k1
 obtain ⟨hb,e2,i2⟩:=YG 4 i1 k2
 have h0:hb[0]? = some (.box [.d y1,.d y2]):=by
  rcases i2 0 with h | ⟨_,_,_,h,_⟩ | ⟨_,_,_,_,h,_⟩
  ·rw [h]; rfl
  ·cases h
  ·cases h
 obtain ⟨t2,rfl⟩:∃ t2,hb = .box [.d y1,.d y2] :: t2:=by
  cases hb with
  | nil => simp at h0
  | cons o t2 => simp at h0; exact ⟨t2,by rw [h0]⟩
 refine ⟨.box [.d y1,.d y2] :: t2,?_,rfl,rfl⟩
 have hv1:¬ (v < 1):=by omega
 have hv2:¬ (w < 1):=by omega
 simp only [rI,outA,BJ,outS,hv1,hv2,decide_false,Bool.false_or,Bool.or_false,Bool.or_self,Bool.false_eq_true,if_false]
 rw [show deep = 4 + 1 from rfl,e1]
 simp only [Option.map_some]
 rw [e2]
 rfl
theorem sE:(env.hint 51).mode = 0:=by kernel_rfl
theorem VS {R:Type} {L n:Nat} {hq:H} {al:Int} {rs:List (List Int)} {ac:List Bool} {k:A → H → Option R} (hs:bA rs) (h1:1 ≤ rs.length) (ha:ac.length ≤ 4294967295) (hn:2 ≤ n) (hL:2 ^ 60 ≤ L) :
  aL env (aA env L n) hq 71 [.agg [.d (.int .i64 al),.d (.ivs rs.length (aJ rs)),.d (.ivs ac.length (aK ac))]] k = k (autA hq.length al rs.length ac.length) (hq ++ autO hq.length rs ac):=by
 have he:=aJB hn al rs ac hs h1 ha hL
 have hb:∀ b i,i < rs.length + 2 → back [] b (autO 0 rs ac).length i = some (b + i):=fun b i hi => aIj (by rw [RB]; exact hi)
 have hA:∀ b,mapA (back [] b (autO 0 rs ac).length) (autA 0 al rs.length ac.length) = autA b al rs.length ac.length:=fun b => aHb (by simpa using hb b 0 (by omega)) (by simpa using hb b 1 (by omega))
 have hO:∀ b,(autO 0 rs ac).map (mapO (back [] b (autO 0 rs ac).length)) = autO b rs ac:=fun b => aOS RB
 obtain ⟨o,t,hot⟩:∃ o t,autO 0 rs ac = o :: t:=⟨_,_,rfl⟩
 have hcall:dX (aA env L n) env.hint [] 71 [.agg [.d (.int .i64 al),.d (.ivs rs.length (aJ rs)),.d (.ivs ac.length (aK ac))]] = some (autA 0 al rs.length ac.length,autO 0 rs ac):=by
  have h2:=hA 0
  have h3:=hO 0
  have hf:jB [] [.agg [.d (.int .i64 al),.d (.ivs rs.length (aJ rs)),.d (.ivs ac.length (aK ac))]] = some ([.agg [.d (.int .i64 al),.d (.ivs rs.length (aJ rs)),.d (.ivs ac.length (aK ac))]],[]):=rfl
  rw [hot] at he h2 h3 ⊢
  unfold dX
  rw [GY]
  simp only [hf,he,List.length_nil,List.nil_append,h2,h3]
 have hids:idsL [A.agg [.d (.int .i64 al),.d (.ivs rs.length (aJ rs)),.d (.ivs ac.length (aK ac))]] = []:=by simp [idsL,idsA]
 unfold aL
 rw [hids,RC,nN _ hids]
 have hp:pack hq [] = []:=rfl
 rw [hp,hcall]
 simp only [List.length_nil,Nat.zero_le,true_and,closed,List.all_nil,Bool.and_self,if_true,bP,hA,hO]
theorem aHQ {c:List UInt8} (hc:c.length ≤ 2000) (al:Int) (nx:List (List Int)) (ac:List Bool) (hs:bA nx) (h1:1 ≤ nx.length) (ha:ac.length ≤ 4294967295) (p t u:Int) (hu0:¬ (u = 0)) (hu1:¬ (u = 1)) (hu2:¬ (u = 2)) (hu3:¬ (u = 3)) (hu4:¬ (u = 4)) (hu5:¬ (u = 5))
  (kd1:(Dw 1 48 [.d (.int .i64 (nx.length))] (.d (.int .i64 t)) c p (p + 1)))
  (kd2:(Dw 1 48 [.d (.int .i64 30)] (.d (.int .i64 u)) c (p + 1) (p + 1 + 1))):(Dw 4 51 [autD al nx ac] (autD al nx ac) c p (p + 1 + 1)):=by
 intro R L n hq k hn hL
 refine eO sE (by simp [autD,idsA,idsL]) (by simp [autD,idsA,idsL]) ?_
 have hnl:=hs.1
 have kd3:=fun {R:Type} {n:Nat} {hq:H} {k:A → H → Option R} (hn:2 ≤ n) => VS (R:=R) (L:=L) (n:=n) (hq:=hq) (al:=al) (k:=k) hs h1 ha hn hL
 simp only [autA,autO] at kd3
 have hH:Has (rdO c (p + 1 + 1) :: .box [.d (.int .i64 al),.d (.ivs nx.length (aJ nx)),.d (.ivs ac.length (aK ac))] :: .arr [] 0 0 :: .arr [] 0 0 :: .box [.d (.int .i64 al),.sl 5 0 0 nx.length,.sl 6 0 0 ac.length] :: .vec (aB 7 nx ++ aF 0) 1 0 :: .arr (aK ac) 1 0 :: (aH nx ++ .arr [] 0 0 :: .arr [] 0 0 :: .box [.d (.int .i64 al),.sl 5 0 0 nx.length,.sl 6 0 0 ac.length] :: [])) 5 nx ac:=by
  have:=YM (h:=[rdO c (p + 1 + 1),.box [.d (.int .i64 al),.d (.ivs nx.length (aJ nx)),.d (.ivs ac.length (aK ac))],.arr [] 0 0,.arr [] 0 0,.box [.d (.int .i64 al),.sl 5 0 0 nx.length,.sl 6 0 0 ac.length]]) (v:=5) (rs:=nx) (ac:=ac) (p:=.arr [] 0 0 :: .arr [] 0 0 :: .box [.d (.int .i64 al),.sl 5 0 0 nx.length,.sl 6 0 0 ac.length] :: []) rfl
  simpa using this
 obtain ⟨h2,st_out,st_keep,st_trim⟩:=X7 (n:=nx.length) (m:=ac.length) (al:=al) hH (by omega) rfl rfl
 unfold autD at st_out ⊢
 clear hH
 obtain _ | n:=n; omega
 rw [nR]
 simp only [nO,Tryd.f51,SLM,simprocAttr]
 simp -implicitDefEqProofs (maxSteps:=2000000) (disch:=try exact Dz) only [↓DN,↓kAsg,↓kRet,UP,simprocAttr,LA,hu0,hu1,hu2,hu3,hu4,hu5,↓kd1,↓kd2,↓kd3,dQ,List.append_assoc,List.cons_append,List.nil_append,A4,KS,GL,↓st_out,↓st_keep,↓st_trim]
theorem aLm {c:List UInt8} (hc:c.length ≤ 2000) (al:Int) (nx:List (List Int)) (ac:List Bool) (hs:bA nx) (h1:1 ≤ nx.length) (ha:ac.length ≤ 4294967295) (p t:Int) (hp:0 ≤ p) (hp2:p ≤ 900000000)
  (kd1:(Dw 1 48 [.d (.int .i64 (nx.length))] (.d (.int .i64 t)) c p (p + 1)))
  (kd2:(Dw 1 48 [.d (.int .i64 30)] (.d (.int .i64 0)) c (p + 1) (p + 1 + 1))):∃ al2:Int,(Dw 4 51 [autD al nx ac] (autD al2 nx ac) c p (p + 1 + 1 + 1)):=by
 obtain ⟨al2,_,kd4⟩:=KD hc [64,-1,1,63,0] (by simp) (by simp) (p + 1 + 1) (by omega) (by omega)
 simp only [ints,List.map_cons,List.map_nil,List.length_cons,List.length_nil,Nat.zero_add,Nat.reduceAdd] at kd4
 refine ⟨al2,?_⟩
 intro R L n hq k hn hL
 refine eO sE (by simp [autD,idsA,idsL]) (by simp [autD,idsA,idsL]) ?_
 have hnl:=hs.1
 have kd3:=fun {R:Type} {n:Nat} {hq:H} {k:A → H → Option R} (hn:2 ≤ n) => VS (R:=R) (L:=L) (n:=n) (hq:=hq) (al:=al) (k:=k) hs h1 ha hn hL
 simp only [autA,autO] at kd3
 have hH:Has (rdO c (p + 1 + 1 + 1) :: .box [.d (.int .i64 al),.d (.ivs nx.length (aJ nx)),.d (.ivs ac.length (aK ac))] :: .arr [] 0 0 :: .arr [] 0 0 :: .box [.d (.int .i64 al2),.sl 5 0 0 nx.length,.sl 6 0 0 ac.length] :: .vec (aB 7 nx ++ aF 0) 1 0 :: .arr (aK ac) 1 0 :: (aH nx ++ .arr [] 0 0 :: .arr [] 0 0 :: .box [.d (.int .i64 al2),.sl 5 0 0 nx.length,.sl 6 0 0 ac.length] :: .arr [.int .i64 64,.int .i64 (-1),.int .i64 1,.int .i64 63,.int .i64 0] 1 0 :: [])) 5 nx ac:=by
  have:=YM (h:=[rdO c (p + 1 + 1 + 1),.box [.d (.int .i64 al),.d (.ivs nx.length (aJ nx)),.d (.ivs ac.length (aK ac))],.arr [] 0 0,.arr [] 0 0,.box [.d (.int .i64 al2),.sl 5 0 0 nx.length,.sl 6 0 0 ac.length]]) (v:=5) (rs:=nx) (ac:=ac) (p:=.arr [] 0 0 :: .arr [] 0 0 :: .box [.d (.int .i64 al2),.sl 5 0 0 nx.length,.sl 6 0 0 ac.length] :: .arr [.int .i64 64,.int .i64 (-1),.int .i64 1,.int .i64 63,.int .i64 0] 1 0 :: []) rfl
  simpa using this
 obtain ⟨h2,st_out,st_keep,st_trim⟩:=X7 (n:=nx.length) (m:=ac.length) (al:=al2) hH (by omega) rfl rfl
 have hnum:(O.box [.d (.int .i64 al),.d (.ivs nx.length (aJ nx)),.d (.ivs ac.length (aK ac))] :: .arr [] 0 0 :: .arr [] 0 0 :: .box [.d (.int .i64 0),.sl 2 0 0 0,.sl 3 0 0 0] :: .vec (aB 7 nx ++ aF 0) 1 0 :: .arr (aK ac) 1 0 :: (aH nx ++ [.arr [] 0 0,.arr [] 0 0,.box [.d (.int .i64 al),.sl 5 0 0 nx.length,.sl 6 0 0 ac.length],.arr [.int .i64 64,.int .i64 (-1),.int .i64 1,.int .i64 63,.int .i64 0] 1 0]))[nx.length + 3 + 1 + 1 + 1 + 1 + 1 + 1]? = some (.arr [.int .i64 64,.int .i64 (-1),.int .i64 1,.int .i64 63,.int .i64 0] 1 0):=by
  simp only [List.getElem?_cons_succ]
  exact U7 rfl
 unfold autD at st_out ⊢
 clear hH
 obtain _ | n:=n; omega
 rw [nR]
 simp only [nO,Tryd.f51,SLM,simprocAttr]
 simp -implicitDefEqProofs (maxSteps:=2000000) (disch:=try exact Dz) only [↓DN,↓kAsg,↓kRet,UP,simprocAttr,LA,↓kd1,↓kd2,↓kd3,↓kd4,U7,dQ,List.append_assoc,List.cons_append,List.nil_append,A4,KS,GL,↓st_out,↓st_keep,↓st_trim]
abbrev Str:=List UInt8
theorem AQ {l:List Str} {k:Nat} (h:l.length ≤ k):(bV l).take k = bV l:=List.take_of_length_le (by rw [CB]; exact h)
theorem aDr {l:List Str} {v:Str}:bV l ++ [.str v] = bV (l ++ [v]):=by simp [bV]
theorem aLB:bV [] = []:=rfl
theorem SE:type_of% (AI @CB (AI @AQ @RG)) :=
 ⟨@CB,@AQ,@RG⟩
def nL (l:List Str) (v:Str) (i:Nat):Bool:=decide (l.getD i [] = v)
theorem aEB {l:List Str} {v:Str}:(seek (nL l v) l.length 0).isSome = decide (v ∈ l):=by
 have h:(seek (nL l v) l.length 0).isSome = true ↔ v ∈ l:=by
  constructor
  ·intro h
   cases hs:seek (nL l v) l.length 0 with
   | none => rw [hs] at h; cases h
   | some r =>
    obtain ⟨h1,h2,h3,_⟩:=ON hs
    unfold nL at h3
    rw [decide_eq_true_eq] at h3
    rw [← h3]
    exact aBb (by omega)
  ·intro h
   obtain ⟨i,hi,rfl⟩:=List.getElem_of_mem h
   cases hs:seek (nL l l[i]) l.length 0 with
   | some r => rfl
   | none =>
    have:=E5.1 hs i (by omega) (by omega)
    unfold nL at this
    rw [List.getD_eq_getElem?_getD,List.getElem?_eq_getElem hi] at this
    simp at this
 cases hb:(seek (nL l v) l.length 0).isSome with
 | true => rw [decide_eq_true (h.1 hb)]
 | false => rw [decide_eq_false fun hv => by rw [h.2 hv] at hb; cases hb]
theorem aHJ {R:Type} {L n:Nat} (hn:1 ≤ n) {l:List Str} {v:Str} (hl:l.length ≤ 4294967296) {k:Exit → List A → H → Option R}:∀ (j i m:Nat) (hi:i + j = l.length) (hm:j < m),
  aO env (aA env L n) L 0 [] (U2 (Z2 (U2 (Z8 (Z4 ([])))))) (BG 0) (Z2 (U2 (Z2 (U8 (U4 ([])))))) m (.d (.ivs l.length (bV l)) :: .d (.str v) :: Y2 (.d (.bool false) :: .d (.int .i64 ((i:Int))) :: Y8 (Y4 ([])))) [] k
  = match seek (nL l v) j i with
   | none => k (.exit 0) (.d (.ivs l.length (bV l)) :: .d (.str v) :: Y2 (.d (.bool false) :: .d (.int .i64 (l.length)) :: Y8 (Y4 ([])))) []
   | some q => k .ret (.d (.ivs l.length (bV l)) :: .d (.str v) :: Y2 (.d (.bool true) :: .d (.int .i64 ((q:Int))) :: Y8 (Y4 ([])))) []:=by
 intro j
 induction j with
 | zero =>
  intro i m hi hm
  obtain _ | m:=m; omega
  obtain rfl:i = l.length:=by omega
  rw [D7]
  simp only [EV,Tryd.f26,SLM,simprocAttr]
  simp -implicitDefEqProofs (maxSteps:=2000000) (disch:=try exact Dz) only [↓DN,↓kAsg,↓kRet,UP,simprocAttr,SE,Int.lt_irrefl]
  rfl
 | succ j ih =>
  intro i m hi hm
  obtain _ | m:=m; omega
  have hc:(i:Int) < l.length:=by omega
  have hk:i < l.length:=by omega
  have hi0:(0:Int) ≤ i:=by omega
  by_cases h1:l.getD i [] = v
  ·have hb:nL l v i = true:=by unfold nL; rw [decide_eq_true h1]
   rw [pH hb]
   clear ih
   rw [D7]
   simp only [EV,Tryd.f26,SLM,simprocAttr]
   simp -implicitDefEqProofs (maxSteps:=2000000) (disch:=try exact Dz) only [↓DN,↓kAsg,↓kRet,UP,simprocAttr,SE,hc,hi0,h1,Int.toNat_natCast,beq_self_eq_true]
  ·have hb:nL l v i = false:=by unfold nL; rw [decide_eq_false h1]
   rw [sS hb]
   have ih':=ih (i + 1) m (by omega) (by omega)
   rw [show ((i + 1:Nat):Int) = (i:Int) + 1 by omega] at ih'
   have h2:(l.getD i [] == v) = false:=by simpa using h1
   clear ih
   rw [D7]
   simp only [EV,Tryd.f26,SLM,simprocAttr]
   simp -implicitDefEqProofs (maxSteps:=2000000) (disch:=try exact Dz) only [↓DN,↓kAsg,↓kRet,UP,simprocAttr,SE,hc,hi0,h2,Int.toNat_natCast,↓ih']
theorem aCF {L n:Nat} (hn:2 ≤ n) (l:List Str) (v:List UInt8) (hl:l.length ≤ 4294967296) (hL:2 ^ 60 ≤ L):aA env L n 26 [.d (.ivs l.length (bV l)),.d (.str v)] [] = some (.d (.bool (decide (v ∈ l))),[]):=by
 have loop_c:=fun {R:Type} {n:Nat} {k:Exit → List A → H → Option R} (hn:1 ≤ n) => @aHJ R L n hn l v hl k l.length 0 L (by omega) (by omega)
 rw [← aEB]
 simp only [Int.natCast_zero] at loop_c
 cases hs:seek (nL l v) l.length 0 with
 | none =>
  rw [hs] at loop_c
  simp only [Option.isSome_none]
  obtain _ | n:=n; omega
  rw [aBJ]
  simp only [VZ,Tryd.f26,SLM,simprocAttr]
  simp -implicitDefEqProofs (maxSteps:=2000000) (disch:=try exact Dz) only [↓DN,↓kAsg,↓kRet,UP,simprocAttr,SE,↓loop_c]
 | some q =>
  rw [hs] at loop_c
  simp only [Option.isSome_some]
  obtain _ | n:=n; omega
  rw [aBJ]
  simp only [VZ,Tryd.f26,SLM,simprocAttr]
  simp -implicitDefEqProofs (maxSteps:=2000000) (disch:=try exact Dz) only [↓DN,↓kAsg,↓kRet,UP,simprocAttr,SE,↓loop_c]
theorem qQ {R:Type} {L n:Nat} {hq:H} {k:A → H → Option R} (hn:2 ≤ n) (l:List Str) (v:List UInt8) (hl:l.length ≤ 4294967296) (hL:2 ^ 60 ≤ L):aL env (aA env L n) hq 26 [.d (.ivs l.length (bV l)),.d (.str v)] k = k (.d (.bool (decide (v ∈ l)))) hq :=
 a5 rfl (aCF hn l v hl hL) rfl (.inl rfl)
theorem v9 {R:Type} {L n:Nat} {k:A → Option R} (hn:2 ≤ n) (l:List Str) (v:List UInt8) (hl:l.length ≤ 4294967296) (hL:2 ^ 60 ≤ L):bL (aA env L n) 26 [.d (.ivs l.length (bV l)),.d (.str v)] k = k (.d (.bool (decide (v ∈ l)))) :=
 fR (aCF hn l v hl hL) rfl
theorem nZ {R:Type} {L n:Nat} {hq:H} {k:A → H → Option R} {id0 g0 o0 len0:Nat} {v:List UInt8}:aL env (aA env L n) hq 26 [.sl id0 g0 o0 len0,.d (.str v)] k = match box (cZ hq [.sl id0 g0 o0 len0,.d (.str v)]) with
  | .mk (some fs) => bL (aA env L n) 26 fs fun r => k r hq
  | _ => none:=aW K5
theorem AB {R:Type} {L n:Nat} (hn:1 ≤ n) {l:List Str} {v:Str} {i5:A} (hl:l.length ≤ 4294967296) {k:Exit → List A → H → Option R}:∀ (j i m:Nat) (hi:i + j = l.length) (hm:j < m),
  aO env (aA env L n) L 0 [] (U2 (Z2 (U1 (Z2 (U2 (Z8 (Z2 ([])))))))) (fV 0) (Z2 (U2 (Z1 (U2 (Z2 (U8 (U2 ([])))))))) m (.d (.ivs l.length (bV l)) :: .d (.str v) :: Y2 (.d (.int .i64 0) :: Y2 (.d (.int .i64 (l.length)) :: .d (.int .i64 ((i:Int))) :: Y8 (Y2 ([]))))) [] k
  = match seek (nL l v) j i with
   | none => k (.exit 0) (.d (.ivs l.length (bV l)) :: .d (.str v) :: Y2 (.d (.int .i64 0) :: Y2 (.d (.int .i64 (l.length)) :: .d (.int .i64 (l.length)) :: Y8 (Y2 ([]))))) []
   | some q => k .ret (.d (.ivs l.length (bV l)) :: .d (.str v) :: Y2 (.d (.int .i64 ((q:Int))) :: Y2 (.d (.int .i64 (l.length)) :: .d (.int .i64 ((q:Int))) :: Y8 (Y2 ([]))))) []:=by
 intro j
 induction j with
 | zero =>
  intro i m hi hm
  obtain _ | m:=m; omega
  obtain rfl:i = l.length:=by omega
  rw [kD]
  simp only [iR,Tryd.f54,SLM,simprocAttr]
  simp -implicitDefEqProofs (maxSteps:=2000000) (disch:=try exact Dz) only [↓DN,↓kAsg,↓kRet,UP,simprocAttr,SE,Int.lt_irrefl]
  rfl
 | succ j ih =>
  intro i m hi hm
  obtain _ | m:=m; omega
  have hc:(i:Int) < l.length:=by omega
  have hk:i < l.length:=by omega
  have hi0:(0:Int) ≤ i:=by omega
  by_cases h1:l.getD i [] = v
  ·have hb:nL l v i = true:=by unfold nL; rw [decide_eq_true h1]
   rw [pH hb]
   clear ih
   rw [kD]
   simp only [iR,Tryd.f54,SLM,simprocAttr]
   simp -implicitDefEqProofs (maxSteps:=2000000) (disch:=try exact Dz) only [↓DN,↓kAsg,↓kRet,UP,simprocAttr,SE,hc,hi0,h1,Int.toNat_natCast,beq_self_eq_true]
  ·have hb:nL l v i = false:=by unfold nL; rw [decide_eq_false h1]
   rw [sS hb]
   have ih':=ih (i + 1) m (by omega) (by omega)
   rw [show ((i + 1:Nat):Int) = (i:Int) + 1 by omega] at ih'
   have h2:(v == l.getD i []) = false:=by simpa using fun h => h1 h.symm
   clear ih
   rw [kD]
   simp only [iR,Tryd.f54,SLM,simprocAttr]
   simp -implicitDefEqProofs (maxSteps:=2000000) (disch:=try exact Dz) only [↓DN,↓kAsg,↓kRet,UP,simprocAttr,SE,hc,hi0,h2,Int.toNat_natCast,↓ih']
def QX (l:List Str) (v:Str):Int:=match seek (nL l v) l.length 0 with | none => -1 | some q => q
theorem rA {L n:Nat} (hn:2 ≤ n) (l:List Str) (v:List UInt8) (hl:l.length ≤ 4294967296) (hL:2 ^ 60 ≤ L):aA env L n 54 [.d (.ivs l.length (bV l)),.d (.str v)] [] = some (.d (.int .i64 (QX l v)),[]):=by
 have loop_c:=fun {R:Type} {n:Nat} {k:Exit → List A → H → Option R} (hn:1 ≤ n) => @AB R L n hn l v (.junk) hl k l.length 0 L (by omega) (by omega)
 simp only [Int.natCast_zero] at loop_c
 unfold QX
 cases hs:seek (nL l v) l.length 0 with
 | none =>
  rw [hs] at loop_c
  simp only
  obtain _ | n:=n; omega
  rw [q9]
  simp only [nJ,Tryd.f54,SLM,simprocAttr]
  simp -implicitDefEqProofs (maxSteps:=2000000) (disch:=try exact Dz) only [↓DN,↓kAsg,↓kRet,UP,simprocAttr,SE,↓loop_c]
 | some q =>
  rw [hs] at loop_c
  simp only
  obtain _ | n:=n; omega
  rw [q9]
  simp only [nJ,Tryd.f54,SLM,simprocAttr]
  simp -implicitDefEqProofs (maxSteps:=2000000) (disch:=try exact Dz) only [↓DN,↓kAsg,↓kRet,UP,simprocAttr,SE,↓loop_c]
theorem CP {R:Type} {L n:Nat} {hq:H} {k:A → H → Option R} (hn:2 ≤ n) (l:List Str) (v:List UInt8) (hl:l.length ≤ 4294967296) (hL:2 ^ 60 ≤ L):aL env (aA env L n) hq 54 [.d (.ivs l.length (bV l)),.d (.str v)] k = k (.d (.int .i64 (QX l v))) hq :=
 a5 rfl (rA hn l v hl hL) rfl (.inl rfl)
theorem CO {R:Type} {L n:Nat} {k:A → Option R} (hn:2 ≤ n) (l:List Str) (v:List UInt8) (hl:l.length ≤ 4294967296) (hL:2 ^ 60 ≤ L):bL (aA env L n) 54 [.d (.ivs l.length (bV l)),.d (.str v)] k = k (.d (.int .i64 (QX l v))) :=
 fR (rA hn l v hl hL) rfl
theorem AA {R:Type} {L n:Nat} {hq:H} {k:A → H → Option R} {id0 g0 o0 len0:Nat} {v:List UInt8}:aL env (aA env L n) hq 54 [.sl id0 g0 o0 len0,.d (.str v)] k = match box (cZ hq [.sl id0 g0 o0 len0,.d (.str v)]) with
  | .mk (some fs) => bL (aA env L n) 54 fs fun r => k r hq
  | _ => none:=aW lD
theorem aLh {l:List Str} {v:Str}:decide (0 ≤ QX l v) = decide (v ∈ l):=by
 rw [← aEB]
 unfold QX
 cases seek (nL l v) l.length 0 with
 | none => rfl
 | some q => simp
theorem pL {L n:Nat} (hn:3 ≤ n) (l:List Str) (v:List UInt8) (hl:l.length ≤ 4294967296) (hL:2 ^ 60 ≤ L):aA env L n 23 [.d (.ivs l.length (bV l)),.d (.str v)] [] = some (.d (.bool (decide (v ∈ l))),[]):=by
 rw [← aLh]
 obtain _ | n:=n; omega
 rw [y3]
 simp only [pX,Tryd.f23,SLM,simprocAttr]
 simp -implicitDefEqProofs (maxSteps:=2000000) (disch:=try exact Dz) only [↓DN,↓kAsg,↓kRet,UP,simprocAttr,↓CP,↓CO,↓AA,SE]
theorem cX {R:Type} {L n:Nat} {hq:H} {k:A → H → Option R} (hn:3 ≤ n) (l:List Str) (v:List UInt8) (hl:l.length ≤ 4294967296) (hL:2 ^ 60 ≤ L):aL env (aA env L n) hq 23 [.d (.ivs l.length (bV l)),.d (.str v)] k = k (.d (.bool (decide (v ∈ l)))) hq :=
 a5 rfl (pL hn l v hl hL) rfl (.inl rfl)
theorem eC {R:Type} {L n:Nat} {k:A → Option R} (hn:3 ≤ n) (l:List Str) (v:List UInt8) (hl:l.length ≤ 4294967296) (hL:2 ^ 60 ≤ L):bL (aA env L n) 23 [.d (.ivs l.length (bV l)),.d (.str v)] k = k (.d (.bool (decide (v ∈ l)))) :=
 fR (pL hn l v hl hL) rfl
theorem cL {R:Type} {L n:Nat} {hq:H} {k:A → H → Option R} {id0 g0 o0 len0:Nat} {v:List UInt8}:aL env (aA env L n) hq 23 [.sl id0 g0 o0 len0,.d (.str v)] k = match box (cZ hq [.sl id0 g0 o0 len0,.d (.str v)]) with
  | .mk (some fs) => bL (aA env L n) 23 fs fun r => k r hq
  | _ => none:=aW jZ
section
section
variable {L n:Nat} {h:H}
end
end
theorem M9 {f:A → Option D}:∀ {cs:List A} {ds:List D},cs.length = ds.length → (∀ (i:Nat) (a:A) (x:D),cs[i]? = some a → ds[i]? = some x → f a = some x) → kF f cs = some ds
 | [],[],_,_ => rfl
 | [],_ :: _,h,_ => by cases h
 | _ :: _,[],h,_ => by cases h
 | a :: cs,x :: ds,h,hf => by
  have h0:=hf 0 a x rfl rfl
  have h1:=M9 (f:=f) (cs:=cs) (ds:=ds) (by simpa using h) (fun i b y hb hy => hf (i + 1) b y (by simpa using hb) (by simpa using hy))
  simp only [kF,h0,h1]
theorem zZ {h:H} {v gv n:Nat} {cs:List A} {rs:List (List Int)} (hv:h[v]? = some (.vec cs 1 gv)) (hc:kF (rd0 h) cs = some (aJ rs)) (hn:n = rs.length):rd1 h (.sl v gv 0 n) = some (.ivs rs.length (aJ rs)):=by
 subst hn
 have hl:=SP hc
 have hr:(aJ rs).length = rs.length:=by simp [aJ]
 simp only [rd1,hv,hc,Option.map_some,List.drop_zero,Nat.zero_add,Nat.mul_one]
 rw [if_pos ⟨trivial,by omega⟩]
 congr 2
 exact List.take_of_length_le (by omega)
theorem sF {h:H} {v gv n:Nat} {ac:List Bool} (hv:h[v]? = some (.arr (aK ac) 1 gv)) (hn:n = ac.length):rd1 h (.sl v gv 0 n) = some (.ivs ac.length (aK ac)):=by
 subst hn
 have hr:(aK ac).length = ac.length:=by simp [aK]
 simp only [rd1,rd0,hv,List.drop_zero,Nat.zero_add,Nat.mul_one]
 rw [if_pos ⟨trivial,by omega⟩]
 congr 2
 exact List.take_of_length_le (by omega)
theorem aBh {rs:List (List Int)} {i:Nat} {x:D} (h:(aJ rs)[i]? = some x):∃ r,rs[i]? = some r ∧ x = rowD r:=by
 unfold aJ at h
 rw [List.getElem?_map] at h
 cases hr:rs[i]? with
 | none => rw [hr] at h; cases h
 | some r => rw [hr] at h; simp at h; exact ⟨r,rfl,h.symm⟩
theorem SQ:∀ {rs:List (List Int)} {b i:Nat} {a:A},(aB b rs)[i]? = some a → ∃ r,rs[i]? = some r ∧ a = .sl (b + i) 0 0 r.length
 | [],b,i,a,h => by simp [aB] at h
 | r :: rs,b,0,a,h => by simp [aB] at h; exact ⟨r,rfl,h.symm⟩
 | r :: rs,b,i + 1,a,h => by
  simp only [aB,List.getElem?_cons_succ] at h
  obtain ⟨q,h1,h2⟩:=SQ h
  exact ⟨q,by simpa using h1,by rw [h2]; congr 1; omega⟩
theorem nV:∀ {h:H} {i:Nat} {o:O},wgt (h.set i o) ≤ wgt h + (gZ o).length
 | [],i,o => by simp [wgt]
 | x :: h,0,o => by
  have e1:=tP [o] h
  have e2:=tP [x] h
  have e3:wgt [o] = (gZ o).length:=by cases o <;> simp [wgt,gZ]
  simp only [List.set_cons_zero]
  simp only [List.singleton_append] at e1 e2
  omega
 | x :: h,i + 1,o => by
  have ih:=nV (h:=h) (i:=i) (o:=o)
  have e1:=tP [x] (h.set i o)
  have e2:=tP [x] h
  simp only [List.set_cons_succ]
  simp only [List.singleton_append] at e1 e2
  omega
theorem p9 {o:O} {h:H}:wgt (o :: h) = (gZ o).length + wgt h:=by
 cases o <;> simp [wgt,gZ]
theorem EM {o:O} {h:H}:wgt (h ++ [o]) = wgt h + (gZ o).length:=by
 rw [tP,p9]
 rfl
structure Cpy (y z:O) (al:Int) (nx:List (List Int)) (ac:List Bool) (N:Nat) (T1 T2 T3:H):Prop where
 hN:N = nx.length + 6
 h1:y :: .arr [] 0 0 :: .arr [] 0 0 :: z :: autO 5 nx ac = T1
 l1:T1.length = N
 h2:T1 ++ [.arr [] 0 0,.arr [] 0 0,.box [.d (.int .i64 0),.sl (N + 1) 0 0 0,.sl (N + 1 + 1) 0 0 0]] = T2
 b2:T2[N + 1 + 1]? = some (.box [.d (.int .i64 0),.sl (N + 1) 0 0 0,.sl (N + 1 + 1) 0 0 0])
 h3:T2.set (N + 1 + 1) (.box [.d (.int .i64 al),.sl 5 0 0 nx.length,.sl 6 0 0 ac.length]) = T3
 l3:T3.length = N + 1 + 1 + 1
 t3:T3[3]? = some z
 t4:T3[4]? = some (.vec (aB 7 nx ++ aF 0) 1 0)
 t5:T3[5]? = some (.arr (aK ac) 1 0)
 tr:∀ (i:Nat) (r:List Int),nx[i]? = some r → T3[i + 6]? = some (.arr (ints r) 1 0)
 tb:T3[N + 1 + 1]? = some (.box [.d (.int .i64 al),.sl 5 0 0 nx.length,.sl 6 0 0 ac.length])
 e3:T3 = y :: .arr [] 0 0 :: .arr [] 0 0 :: z :: .vec (aB 7 nx ++ aF 0) 1 0 :: .arr (aK ac) 1 0 :: (aH nx ++ [.arr [] 0 0,.arr [] 0 0,.box [.d (.int .i64 al),.sl 5 0 0 nx.length,.sl 6 0 0 ac.length]])
 wg:wgt T3 ≤ nx.length + 8 + (gZ y).length + (gZ z).length
theorem oY (y z:O) (al:Int) (nx:List (List Int)) (ac:List Bool):∃ (N:Nat) (T1 T2 T3:H),Cpy y z al nx ac N T1 T2 T3:=by
 have l1:(y :: .arr [] 0 0 :: .arr [] 0 0 :: z :: autO 5 nx ac).length = nx.length + 6:=by simp [RB]
 generalize hT1:y :: .arr [] 0 0 :: .arr [] 0 0 :: z :: autO 5 nx ac = T1 at l1
 have low:∀ (l:H) (i:Nat),i < nx.length + 6 → (T1 ++ l)[i]? = T1[i]?:=fun l i hi => List.getElem?_append_left (by omega)
 have g2:∀ a b c:O,(T1 ++ [a,b,c])[nx.length + 6 + 1 + 1]? = some c:=fun a b c => by rw [← l1]; exact aPh
 have g3:∀ a b c d:O,(T1 ++ [a,b,c]).set (nx.length + 6 + 1 + 1) d = T1 ++ [a,b,d]:=fun a b c d => by rw [← l1]; exact aPD
 refine ⟨nx.length + 6,T1,_,_,rfl,hT1,l1,rfl,g2 _ _ _,rfl,by rw [List.length_set]; simp [l1],?_,?_,?_,?_,?_,?_,?_⟩
 ·rw [g3,low _ _ (by omega),← hT1]; rfl
 ·rw [g3,low _ _ (by omega),← hT1]; rfl
 ·rw [g3,low _ _ (by omega),← hT1]; rfl
 ·intro i r hr
  have hi:i < nx.length:=(List.getElem?_eq_some_iff.1 hr).1
  rw [g3,low _ _ (by omega),← hT1]
  simp only [autO,List.getElem?_cons_succ]
  have:=I5 (p:=[]) hr
  rwa [List.append_nil] at this
 ·rw [g3,g2]
 ·rw [g3,← hT1]
  simp [autO]
 ·rw [g3,tP,← hT1,p9,p9,p9,p9,aSC]
  simp [wgt,gZ,idsL,idsA]
  omega
theorem dV {T T':H} {i:Nat} {o:O} (h:T.set i o = T') (hi:i < T.length):T'.length = T.length ∧ T'[i]? = some o ∧ ∀ j,j ≠ i → T'[j]? = T[j]?:=by
 subst h
 exact ⟨List.length_set,List.getElem?_set_self hi,fun j hj => List.getElem?_set_ne (fun e => hj e.symm)⟩
theorem nS {T T':H} {o:O} (h:T ++ [o] = T'):T'.length = T.length + 1 ∧ T'[T.length]? = some o ∧ ∀ j,j < T.length → T'[j]? = T[j]?:=by
 subst h
 exact ⟨by simp,by simp,fun j hj => List.getElem?_append_left hj⟩
theorem KO {h:H} {nx:List (List Int)} (hr:∀ (i:Nat) (r:List Int),nx[i]? = some r → h[i + 7]? = some (.arr (ints r) 1 0)):kF (rd0 h) (aB 7 nx ++ aF 0) = some (aJ nx):=by
 refine M9 (by rw [List.length_append,j6]; simp [aF,aJ]) ?_
 intro i a x ha hx
 obtain ⟨r,hr1,rfl⟩:=aBh hx
 have hn:aF 0 = []:=rfl
 rw [hn,List.append_nil] at ha
 obtain ⟨r2,hr2,rfl⟩:=SQ ha
 rw [hr1] at hr2
 cases hr2
 refine aCV ?_
 rw [Nat.add_comm]
 exact hr i r hr1
theorem aGU {h:H} {b g:Nat} {r:List Int} (hr:h[b]? = some (.arr (ints r) 1 g)):rd0 h (.sl b g 0 r.length) = some (rowD r):=by
 have hl:(ints r).length = r.length:=by simp [ints]
 simp only [rd0,hr,List.drop_zero,Nat.zero_add,Nat.mul_one]
 rw [if_pos ⟨trivial,by omega⟩]
 unfold rowD
 congr 2
 exact List.take_of_length_le (by omega)
theorem aIa {h:H} {nx:List (List Int)} {t g:Nat} {row:List Int} (ht:t < nx.length) (hr:∀ (i:Nat) (r:List Int),i ≠ t → nx[i]? = some r → h[i + 7]? = some (.arr (ints r) 1 0)) (h1:h[t + 7]? = some (.arr (ints row) 1 g)) {len:Nat} (hl:len = row.length) :
  kF (rd0 h) ((aB 7 nx ++ aF 0).take t ++ [.sl (t + 7) g 0 len] ++ (aB 7 nx ++ aF 0).drop (t + 1)) = some (aJ (nx.set t row)):=by
 subst hl
 have hn:aF 0 = []:=rfl
 rw [hn,List.append_nil]
 have hlr:(aB 7 nx).length = nx.length:=j6 _ _
 have e:(aB 7 nx).take t ++ [.sl (t + 7) g 0 row.length] ++ (aB 7 nx).drop (t + 1) = (aB 7 nx).set t (.sl (t + 7) g 0 row.length):=by
  rw [List.set_eq_take_append_cons_drop,if_pos (by omega)]
  simp
 rw [e]
 refine M9 (by simp [hlr,aJ]) ?_
 intro i a x ha hx
 obtain ⟨r,hr1,rfl⟩:=aBh hx
 rw [List.getElem?_set] at ha hr1
 by_cases hi:t = i
 ·subst hi
  rw [if_pos rfl,if_pos (by omega)] at ha
  rw [if_pos rfl,if_pos ht] at hr1
  cases ha
  cases hr1
  exact aGU h1
 ·rw [if_neg hi] at ha hr1
  obtain ⟨r2,hr2,rfl⟩:=SQ ha
  rw [hr1] at hr2
  cases hr2
  refine aCV ?_
  rw [Nat.add_comm]
  exact hr i r (fun e => hi e.symm) hr1
theorem ZE {h:H} {i:Nat} {cs:List D} {e g:Nat} (h1:h[i]? = some (.arr cs e g)):aC aE h [i] [] = [i]:=by
 rw [show aE = 1099511627774 + 1 + 1 from rfl,sK,zM]
 simp [List.getD_eq_getElem?_getD,h1,zM]
theorem aI3 {h:H} {i j:Nat} {cs ds:List D} {e g e2 g2:Nat} (h1:h[i]? = some (.arr cs e g)) (h2:h[j]? = some (.arr ds e2 g2)) (hne:i ≠ j):aC aE h [i,j] [] = [i,j]:=by
 rw [show aE = 1099511627773 + 1 + 1 + 1 from rfl,sK]
 have hne':¬ j = i:=fun e => hne e.symm
 simp [List.getD_eq_getElem?_getD,h1]
 rw [sK]
 simp [List.getD_eq_getElem?_getD,h2,hne',zM]
theorem aSA {i j:Nat} (hne:i ≠ j):aI [i,j] i = some 0 ∧ aI [i,j] j = some 1:=by
 have hne':¬ i = j:=hne
 simp [aI,hne']
theorem MZ {E:Env} {call:a9} {thaw:List Nat} {dst:Option Tmp} {args:Array Operand} {t e:TypeId} {h:H} {id id2 g g2 e0 len n2:Nat} {cs src:List D} (he:bH E.P t = some e) (hce:E.P.cellsOf e = 1) (hel:bO E.P e = true)
  (h1:h[id]? = some (.arr cs e0 g)) (he0:e0 = 0 ∨ e0 = 1) (h2:h[id2]? = some (.arr src 1 g2)) (hn2:n2 = src.length) (hlen:len ≤ cs.length) (hmax:len + n2 ≤ b5) (hne:id ≠ id2) :
  memD E call thaw dst (.call ⟨.builtin .append,args,#[t,t]⟩) h [.sl id g 0 len,.sl id2 g2 0 n2] = some (.sl id (g + 1) 0 (len + n2),h.set id (.arr (cs.take len ++ src) 1 (g + 1)),{ ids:=[id,id2],ro:=false,wr:=[id] }):=by
 subst hn2
 have hids:idsL [A.sl id g 0 len,A.sl id2 g2 0 src.length] = [id,id2]:=rfl
 obtain ⟨hk,hk2⟩:=aSA hne
 have hord:=aI3 h1 h2 hne
 have hcl:closed h [id,id2] [id,id2] = true:=by simp [closed,h1,h2]
 have p1:=mG (h:=h) (bI hk) h1
 have p2:=mG (h:=h) (bI hk2) h2
 have key:=KR (E:=E) (call:=call) (thaw:=thaw) (dst:=dst) (op:=.call ⟨.builtin .append,args,#[t,t]⟩) (h:=h) (vs:=[A.sl id g 0 len,A.sl id2 g2 0 src.length]) (a:=.sl 0 (g + 1) 0 (len + src.length)) (a2:=.sl id (g + 1) 0 (len + src.length)) (o:=.arr (cs.take len ++ src) 1 (g + 1)) (o2:=.arr (cs.take len ++ src) 1 (g + 1)) (id:=id) (k:=0) (ord:=[id,id2]) (by rw [hids]; exact hord) (by rw [hids]; exact hcl) hk rfl ?_ rfl rfl
 ·rw [key]
  rfl
 ·have hu:E.P.underlying t = some (.slice e):=by
   unfold bH at he
   split at he
   ·rename_i hq; cases he; exact hq
   ·cases he
  have hv:IP (pack h [id,id2]) 0 = false:=by simp only [IP,p1,mapO]
  have hb:yR (pack h [id,id2]) (.sl 1 g2 0 src.length) = false:=by simp only [yR,IP,p2,mapO]
  have hs:d8 (pack h [id,id2]) 1 (.sl 1 g2 0 src.length) = some (src.length,src):=by
   simp [d8,p2,mapO]
  simp only [aG,mapA,hk,hk2,evOp,gT,fI,dE,kZ,hv,hb,Bool.false_eq_true,if_false,qS,he,hel,if_true,hce,hs,p1,mapO,true_and,Nat.mul_one,hlen,hmax,and_self,and_true,he0,hu]
theorem PI {E:Env} {call:a9} {thaw:List Nat} {dst:Option Tmp} {x y:Operand} {t:TypeId} {h:H} {id g off esz:Nat} {cs:List D} {z:D} (ht:E.P.cellsOf t = 1) (hi:(E.P.info? t).isSome = true) (hz:cW (.d z) = true)
  (h1:h[id]? = some (.arr cs esz g)) (hoff:off + 1 ≤ cs.length) :
  memD E call thaw dst (.store t x y) h [.ptr id g off,.d z] = some (.d .undef,h.set id (.arr (bN cs off [z]) esz g),{ ids:=[id],ro:=false,wr:=[id] }):=by
 have hids:idsL [A.ptr id g off,A.d z] = [id]:=rfl
 have hk:aI [id] id = some 0:=by simp [aI]
 have hord:=ZE h1
 have hcl:closed h [id] [id] = true:=by simp [closed,h1]
 have p1:=mG (h:=h) (bI hk) h1
 have key:=KR (E:=E) (call:=call) (thaw:=thaw) (dst:=dst) (op:=.store t x y) (h:=h) (vs:=[A.ptr id g off,A.d z]) (a:=.d .undef) (a2:=.d .undef) (o:=.arr (bN cs off [z]) esz g) (o2:=.arr (bN cs off [z]) esz g) (id:=id) (k:=0) (ord:=[id]) (by rw [hids]; exact hord) (by rw [hids]; exact hcl) hk rfl ?_ rfl rfl
 ·rw [key]
  rfl
 ·have hf:frzL (pack h [id]) [A.d z] = some ([z],pack h [id]):=by
   unfold frzL
   simp only [jC]
   have:frz deep (pack h [id]) (.d z) = some (z,pack h [id]):=rfl
   rw [this]
  simp only [aG,mapA,hk,evOp,gT,two,m3,aR,List.length_cons,List.length_nil,Nat.zero_add,ht,hi,List.all_cons,List.all_nil,hz,Bool.and_self,and_self,if_true,p1,mapO,hf,hoff,Option.map_some]
theorem aIV {E:Env} {call:a9} {thaw:List Nat} {dst:Option Tmp} {x y:Operand} {t:TypeId} {h:H} {id id2 off g g2 o len:Nat} {cs:List A} (ht:E.P.cellsOf t = 1) (hi:(E.P.info? t).isSome = true)
  (h1:h[id]? = some (.vec cs 1 g2)) (hoff:off + 1 ≤ cs.length) (ok1:Okay h id) (ok2:Okay h id2) (hw:2 + wgt h ≤ 1099511627776) :
  memD E call thaw dst (.store t x y) h [.ptr id g2 off,.sl id2 g o len] = some (.d .undef,h.set id (.vec (bN cs off [.sl id2 g o len]) 1 g2),{ ids:=aC aE h [id,id2] [],ro:=false,wr:=aC aE h [id,id2] [] }):=by
 have hids:idsL [A.ptr id g2 off,A.sl id2 g o len] = [id,id2]:=rfl
 obtain ⟨c1,c2,c3⟩:=V1 (h:=h) (ids:=[id,id2]) (by intro i hi; simp at hi; rcases hi with rfl | rfl; exact ok1; exact ok2) (by simpa using hw)
 obtain ⟨ord,hord⟩:∃ ord,aC aE h [id,id2] [] = ord:=⟨_,rfl⟩
 rw [hord] at c1 c2 c3 ⊢
 obtain ⟨k,hk⟩:=dH (c2 id (by simp))
 obtain ⟨k2,hk2⟩:=dH (c2 id2 (by simp))
 have p1:=mG (h:=h) (bI hk) h1
 have bk:∀ xs:List A,(∀ i ∈ idsL xs,i ∈ ord) → aG (fun (k:Nat) => ord[k]?) (aG (aI ord) xs) = xs:=by
  intro xs hx
  rw [o6 (q:=fun i => (aI ord i).bind fun k => ord[k]?) (fun _ => rfl)]
  apply j4
  intro i hi
  obtain ⟨j,hj⟩:=dH (hx i hi)
  simp only [hj,Option.bind_some]
  exact bI hj
 have hcs:∀ i ∈ idsL cs,i ∈ ord:=by
  have:=c3 id (c2 id (by simp))
  simpa only [kids,h1] using this
 have split_cs:∀ q:Nat,(∀ i ∈ idsL (cs.take q),i ∈ ord) ∧ (∀ i ∈ idsL (cs.drop q),i ∈ ord):=by
  intro q
  have:=List.take_append_drop q cs
  constructor
  ·intro i hi
   refine hcs i ?_
   rw [← this,bW,List.mem_append]; exact .inl hi
  ·intro i hi
   refine hcs i ?_
   rw [← this,bW,List.mem_append]; exact .inr hi
 have hnew:∀ i ∈ idsL (bN cs off [.sl id2 g o len]),i ∈ ord:=by
  intro i hi
  unfold bN at hi
  rw [bW,bW,List.mem_append,List.mem_append] at hi
  rcases hi with (hi | hi) | hi
  ·exact (split_cs _).1 i hi
  ·simp [idsL,idsA] at hi; subst hi; exact c2 i (by simp)
  ·exact (split_cs _).2 i hi
 have hmr:bN (aG (aI ord) cs) off [.sl k2 g o len] = aG (aI ord) (bN cs off [.sl id2 g o len]):=by
  unfold bN
  rw [eX,eX,IN,RT]
  simp only [aG,mapA,hk2,List.length_cons,List.length_nil]
 have key:=KR (E:=E) (call:=call) (thaw:=thaw) (dst:=dst) (op:=.store t x y) (h:=h) (vs:=[A.ptr id g2 off,A.sl id2 g o len]) (a:=.d .undef) (a2:=.d .undef) (o:=.vec (aG (aI ord) (bN cs off [.sl id2 g o len])) 1 g2) (o2:=.vec (bN cs off [.sl id2 g o len]) 1 g2) (id:=id) (k:=k) (ord:=ord) (by rw [hids]; exact hord) (by rw [hids]; exact c1) hk rfl ?_ (by simp only [mapA]) (by simp only [mapO,bk _ hnew])
 ·rw [key]
  rfl
 ·have hoff2:off + 1 ≤ (aG (aI ord) cs).length:=by rw [FZ]; exact hoff
  simp only [aG,mapA,hk,hk2,evOp,gT,two,m3,aR,List.length_cons,List.length_nil,Nat.zero_add,ht,hi,List.all_cons,List.all_nil,cW,Bool.and_self,and_self,if_true,p1,mapO,hoff2,true_and,hmr,Option.map_some]
theorem aFT {E:Env} {call:a9} {thaw:List Nat} {dst:Option Tmp} {t e:TypeId} {x:Operand} {h:H} {id g len:Nat} {cs:List D} {es:Nat} (hk:ER thaw dst = true) (he:bH E.P t = some e) (hz:bS E.P e = some (.d .nils)) (hce:E.P.cellsOf e = 1) (hel:bO E.P e = true)
  (h1:h[id]? = some (.arr cs es g)) :
  memD E call thaw dst (.buildSlice t 1 #[(0,x)]) h [.sl id g 0 len] = some (.sl h.length 0 0 1,h ++ [.vec [.sl id g 0 len] 1 0],{ ids:=[id,h.length],ro:=false }):=by
 have hids:idsL [A.sl id g 0 len] = [id]:=rfl
 have hp:aI [id] id = some 0:=by simp [aI]
 have hord:=ZE h1
 have hcl:closed h [id] [id] = true:=by simp [closed,h1]
 have hlt:id < h.length:=(List.getElem?_eq_some_iff.1 h1).1
 have hgd:h.getD id default = .arr cs es g:=by rw [List.getD_eq_getElem?_getD,h1]; rfl
 have hpk:pack h [id] = [.arr cs es g]:=by simp only [pack,List.map_cons,List.map_nil,hgd,mapO]
 have hev:evOp E call thaw (pack h [id]) (gT dst (.buildSlice t 1 #[(0,x)])) (aG (aI [id]) [A.sl id g 0 len]) = some (.sl 1 0 0 1,[.arr cs es g,.vec [.sl 0 g 0 len] 1 0]):=by
  rw [hpk]
  simp only [aG,mapA,hp,evOp,gT,hk,if_true,u5,he,hz,hel,hce,aR]
  rfl
 have hset:h.set id (.arr cs es g) = h:=by
  obtain ⟨_,h2⟩:=List.getElem?_eq_some_iff.1 h1
  rw [← h2,List.set_getElem_self]
 unfold memD
 rw [hids,show aE = 1099511627776 from rfl] at *
 rw [hord]
 simp only [box,hev,hcl,List.length_cons,List.length_nil,fQ,Bool.false_and,Bool.false_eq_true,if_false]
 have hb1:back [id] h.length 2 0 = some id:=rfl
 have hb2:back [id] h.length 2 1 = some h.length:=by simp [back]
 simp [mapA,aG,bP,mapO,hb1,hb2,hset,wrOf]
def sO (bad:List (Nat × Nat)) (ops:List Oper) (cs:List Foot):Bool :=
 let b:=II ops []
 let f:=fun (c:Foot) => c.ro && c.ids.isEmpty
 (List.range cs.length).all fun j => (List.range j).all fun i => (b.getD j 0).testBit i || (f (cs.getD i {}) || f (cs.getD j {}) || ((cs.getD i {}).ro && (cs.getD j {}).ro)) || bad.contains (i,j)
theorem aIp {a b:Foot} (h:(a.ro && a.ids.isEmpty) = true):oT a b = false ∧ oT b a = false:=by
 simp only [Bool.and_eq_true,List.isEmpty_iff] at h
 obtain ⟨ha,hi⟩:=h
 unfold oT
 rw [ha,hi,aP4]
 simp
theorem BL {ops:List Oper} {cs:List Foot} (bad:List (Nat × Nat)) (hm:sO bad ops cs = true) (hb:∀ p ∈ bad,oT (cs.getD p.1 {}) (cs.getD p.2 {}) = false):iS ops cs = true:=by
 refine aMf ?_
 unfold sO at hm
 unfold sI
 simp only [List.all_eq_true,List.mem_range,Bool.or_eq_true] at hm ⊢
 intro j hj i hi
 rcases hm j hj i hi with (h | h) | h
 ·exact .inl h
 ·refine .inr ?_
  rcases h with (h | h) | h
  ·rw [(aIp h).1]; rfl
  ·rw [(aIp h).2]; rfl
  ·simp only [Bool.and_eq_true] at h
   rw [aPS h.1 h.2]; rfl
 ·have hp:=hb (i,j) (by simpa using h)
  exact .inr (by rw [hp]; rfl)
theorem sG {h:H} {i:Nat} {cs:List D} {e g:Nat} (hg:h[i]? = some (.arr cs e g)):Okay h i:=.mk _ _ hg (by simp) (by rw [bZ hg]; simp)
theorem aGS {h:H} {i:Nat} {cs:List A} {e g:Nat} (hg:h[i]? = some (.vec cs e g)) (hk:∀ q ∈ idsL cs,Okay h q):Okay h i:=.mk _ _ hg (by simp) (by
 intro q hq
 have:kids h i = idsL cs:=by simp only [kids,hg]
 rw [this] at hq
 exact hk q hq)
theorem aHO {h:H} {i:Nat} {cs:List A} (hg:h[i]? = some (.box cs)) (hk:∀ q ∈ idsL cs,Okay h q):Okay h i:=.mk _ _ hg (by simp) (by
 intro q hq
 have:kids h i = idsL cs:=by simp only [kids,hg]
 rw [this] at hq
 exact hk q hq)
theorem SG {h:H} {i:Nat} {nx:List (List Int)} {x:List A} {e g:Nat} (hg:h[i]? = some (.vec (aB 7 nx ++ x) e g)) (hr:∀ j,j < nx.length → Okay h (j + 7)) (hx:∀ q ∈ idsL x,Okay h q):Okay h i:=by
 refine aGS hg ?_
 intro q hq
 rw [bW,c9,List.mem_append,List.mem_range'_1] at hq
 rcases hq with hq | hq
 ·obtain ⟨z,rfl⟩:∃ z,q = z + 7:=⟨q - 7,by omega⟩
  exact hr z (by omega)
 ·exact hx q hq
theorem aIu {h:H} {nx:List (List Int)} {e g:Nat} {row:List Int} (hr:∀ (i:Nat) (r:List Int),nx[i]? = some r → h[i + 7]? = some (.arr (ints r) 1 0)) (h1:h[e]? = some (.arr (ints row) 1 g)) :
  kF (rd0 h) (aB 7 nx ++ [.sl e g 0 row.length]) = some (aJ (nx ++ [row])):=by
 have hlr:(aB 7 nx).length = nx.length:=j6 _ _
 refine M9 (by simp [hlr,aJ]) ?_
 intro i a x ha hx
 obtain ⟨r,hr1,rfl⟩:=aBh hx
 by_cases hi:i < nx.length
 ·rw [List.getElem?_append_left (by omega)] at ha hr1
  obtain ⟨r2,hr2,rfl⟩:=SQ ha
  rw [hr1] at hr2
  cases hr2
  refine aCV ?_
  rw [Nat.add_comm]
  exact hr i r hr1
 ·have hi2:i < (aB 7 nx ++ [A.sl e g 0 row.length]).length:=(List.getElem?_eq_some_iff.1 ha).1
  rw [List.length_append,hlr] at hi2
  simp only [List.length_cons,List.length_nil] at hi2
  obtain rfl:i = nx.length:=by omega
  rw [List.getElem?_append_right (by omega)] at ha hr1
  rw [hlr] at ha
  simp only [Nat.sub_self,List.getElem?_cons_zero,Option.some.injEq] at ha hr1
  subst ha
  subst hr1
  exact aGU h1
theorem aJE {nx:List (List Int)} {x:A} {t:Nat} (ht:t < nx.length):((aB 7 nx ++ [x]).drop t).head? = some (.sl (t + 7) 0 0 (nx.getD t []).length):=by
 have h:=oV ht
 have hn:aF 0 = []:=rfl
 have hlr:(aB 7 nx).length = nx.length:=j6 _ _
 rw [hn,List.append_nil,List.head?_drop] at h
 rw [List.head?_drop,List.getElem?_append_left (by omega)]
 exact h
theorem qX {R:Type} {L n:Nat} {o1 o2 o3 o4 o5:O} {al:Int} {rs:List (List Int)} {ac:List Bool} {T1:H} {k:A → H → Option R} (hT:o2 :: o3 :: o4 :: o5 :: autO 5 rs ac = T1) (hs:bA rs) (h1:1 ≤ rs.length) (ha:ac.length ≤ 4294967295) (hn:2 ≤ n) (hL:2 ^ 60 ≤ L) :
  aL env (aA env L n) [o1,o2,o3,o4,o5] 71 [.agg [.d (.int .i64 al),.d (.ivs rs.length (aJ rs)),.d (.ivs ac.length (aK ac))]] k = k (.agg [.d (.int .i64 al),.sl 5 0 0 rs.length,.sl 6 0 0 ac.length]) (o1 :: T1):=by
 rw [VS hs h1 ha hn hL,← hT]
 rfl
theorem aLv {c:List UInt8} (hc:c.length ≤ 2000) (al:Int) (nx:List (List Int)) (ac:List Bool) (hs:bA nx) (h1:1 ≤ nx.length) (ha:ac.length ≤ 4294967290) (p t:Int)
  (kd1:(Dw 1 48 [.d (.int .i64 (nx.length))] (.d (.int .i64 t)) c p (p + 1)))
  (kd2:(Dw 1 48 [.d (.int .i64 30)] (.d (.int .i64 1)) c (p + 1) (p + 1 + 1))):(Dw 4 51 [autD al nx ac] (autD al nx (ac ++ [true])) c p (p + 1 + 1)):=by
 intro R L n hq k hn hL
 refine eO sE (by simp [autD,idsA,idsL]) (by simp [autD,idsA,idsL]) ?_
 have hnl:=hs.1
 obtain ⟨N,T1,T2,T3,w⟩:=oY (.box [.d (.int .i64 al),.d (.ivs nx.length (aJ nx)),.d (.ivs ac.length (aK ac))]) (.box [.d (.int .i64 0),.sl 2 0 0 0,.sl 3 0 0 0]) al nx ac
 have kd3:=fun {R:Type} {n:Nat} {o1:O} {k:A → H → Option R} (hn:2 ≤ n) => qX (R:=R) (L:=L) (n:=n) (o1:=o1) (al:=al) (k:=k) w.h1 hs h1 (by omega) hn hL
 obtain ⟨hN,hT1,l1,h2,b2,h3,l3,t3,t4,t5,tr,tb,e3,wg⟩:=w
 clear e3
 clear hT1
 obtain ⟨T4,h4⟩:∃ T,T3 ++ [.arr [.bool true] 1 0] = T:=⟨_,rfl⟩
 obtain ⟨l4,g4,k4⟩:=nS h4
 rw [l3] at l4 g4 k4
 have t45:=k4 5 (by omega)
 rw [t5] at t45
 obtain ⟨T5,h5⟩:∃ T,T4.set 5 (.arr (aK (ac ++ [true])) 1 1) = T:=⟨_,rfl⟩
 obtain ⟨l5,g5,k5⟩:=dV h5 (by omega)
 obtain ⟨T6,h6⟩:∃ T,T5.set (N + 1 + 1) (.box [.d (.int .i64 al),.sl 5 0 0 nx.length,.sl 6 1 0 (ac.length + 1)]) = T:=⟨_,rfl⟩
 obtain ⟨l6,g6,k6⟩:=dV h6 (by omega)
 obtain ⟨T7,h7⟩:∃ T,T6.set 3 (.box [.d (.int .i64 al),.sl 5 0 0 nx.length,.sl 6 1 0 (ac.length + 1)]) = T:=⟨_,rfl⟩
 obtain ⟨l7,g7,k7⟩:=dV h7 (by omega)
 have t5b:T5[N + 1 + 1]? = some (.box [.d (.int .i64 al),.sl 5 0 0 nx.length,.sl 6 0 0 ac.length]):=by rw [k5 _ (by omega),k4 _ (by omega),tb]
 have t63:T6[3]? = some (.box [.d (.int .i64 0),.sl 2 0 0 0,.sl 3 0 0 0]):=by rw [k6 _ (by omega),k5 _ (by omega),k4 _ (by omega),t3]
 have look:∀ i,i ≠ 5 → i ≠ 3 → i < N + 2 → T7[i]? = T3[i]?:=fun i i5 i3 hi => by rw [k7 _ i3,k6 _ (by omega),k5 _ i5,k4 _ (by omega)]
 have hv:rd1 (rdO c (p + 1 + 1) :: T7) (.sl 5 0 0 nx.length) = some (.ivs nx.length (aJ nx)):=by
  refine zZ (cs:=aB 7 nx ++ aF 0) ?_ (KO fun i r hr => ?_) rfl
  ·rw [List.getElem?_cons_succ,look 4 (by omega) (by omega) (by omega),t4]
  ·have hi:i < nx.length:=(List.getElem?_eq_some_iff.1 hr).1
   rw [show i + 7 = i + 6 + 1 by omega,List.getElem?_cons_succ,look _ (by omega) (by omega) (by omega)]
   exact tr i r hr
 have hw:rd1 (rdO c (p + 1 + 1) :: T7) (.sl 6 1 0 (ac.length + 1)) = some (.ivs (ac ++ [true]).length (aK (ac ++ [true]))):=by
  refine sF ?_ (by simp)
  rw [List.getElem?_cons_succ,k7 _ (by omega),k6 _ (by omega),g5]
 obtain ⟨h2',st_out,st_keep,st_trim⟩:=vF (al:=al) hv hw (by omega) (by omega)
 unfold autD at st_out ⊢
 clear hv hw look k4 k5 k6 k7 tr h1 l4 l5 l6 l7 hN
 obtain _ | n:=n; omega
 rw [nR]
 simp only [nO,Tryd.f51,SLM,simprocAttr]
 simp -implicitDefEqProofs (maxSteps:=2000000) (disch:=try exact Dz) only [↓DN,↓kAsg,↓kRet,UP,simprocAttr,LA,↓kd1,↓kd2,↓kd3,l1,h2,b2,h3,l3,t3,t4,t5,tb,h4,g4,t45,h5,t5b,h6,g6,t63,h7,g7,fO,oX,x3,vS,tD,↓st_out,↓st_keep,↓st_trim,List.append_assoc,List.cons_append,List.nil_append]
theorem aIB {c:List UInt8} (hc:c.length ≤ 2000) (al:Int) (nx:List (List Int)) (ac:List Bool) (hs:bA nx) (h1:1 ≤ nx.length) (ha:ac.length ≤ 4294967290) (p t:Int)
  (kd1:(Dw 1 48 [.d (.int .i64 (nx.length))] (.d (.int .i64 t)) c p (p + 1)))
  (kd2:(Dw 1 48 [.d (.int .i64 30)] (.d (.int .i64 4)) c (p + 1) (p + 1 + 1))):(Dw 4 51 [autD al nx ac] (autD al [] []) c p (p + 1 + 1)):=by
 intro R L n hq k hn hL
 refine eO sE (by simp [autD,idsA,idsL]) (by simp [autD,idsA,idsL]) ?_
 have hnl:=hs.1
 obtain ⟨N,T1,T2,T3,w⟩:=oY (.box [.d (.int .i64 al),.d (.ivs nx.length (aJ nx)),.d (.ivs ac.length (aK ac))]) (.box [.d (.int .i64 0),.sl 2 0 0 0,.sl 3 0 0 0]) al nx ac
 have kd3:=fun {R:Type} {n:Nat} {o1:O} {k:A → H → Option R} (hn:2 ≤ n) => qX (R:=R) (L:=L) (n:=n) (o1:=o1) (al:=al) (k:=k) w.h1 hs h1 (by omega) hn hL
 obtain ⟨hN,hT1,l1,h2,b2,h3,l3,t3,t4,t5,tr,tb,e3,wg⟩:=w
 clear e3
 clear hT1
 obtain ⟨T4,h4⟩:∃ T,T3 ++ [.vec [] 1 0] = T:=⟨_,rfl⟩
 obtain ⟨l4,g4,k4⟩:=nS h4
 rw [l3] at l4 g4 k4
 obtain ⟨T5,h5⟩:∃ T,T4.set (N + 1 + 1) (.box [.d (.int .i64 al),.sl (N + 4) 0 0 0,.sl 6 0 0 ac.length]) = T:=⟨_,rfl⟩
 obtain ⟨l5,g5,k5⟩:=dV h5 (by omega)
 obtain ⟨T6,h6⟩:∃ T,T5 ++ [.arr [] 1 0] = T:=⟨_,rfl⟩
 obtain ⟨l6,g6,k6⟩:=nS h6
 rw [l5,l4] at l6 g6 k6
 obtain ⟨T7,h7⟩:∃ T,T6.set (N + 1 + 1) (.box [.d (.int .i64 al),.sl (N + 4) 0 0 0,.sl (N + 5) 0 0 0]) = T:=⟨_,rfl⟩
 obtain ⟨l7,g7,k7⟩:=dV h7 (by omega)
 obtain ⟨T8,h8⟩:∃ T,T7.set 3 (.box [.d (.int .i64 al),.sl (N + 4) 0 0 0,.sl (N + 5) 0 0 0]) = T:=⟨_,rfl⟩
 obtain ⟨l8,g8,k8⟩:=dV h8 (by omega)
 have t4b:T4[N + 1 + 1]? = some (.box [.d (.int .i64 al),.sl 5 0 0 nx.length,.sl 6 0 0 ac.length]):=by rw [k4 _ (by omega),tb]
 have t6b:T6[N + 1 + 1]? = some (.box [.d (.int .i64 al),.sl (N + 4) 0 0 0,.sl 6 0 0 ac.length]):=by rw [k6 _ (by omega),g5]
 have t73:T7[3]? = some (.box [.d (.int .i64 0),.sl 2 0 0 0,.sl 3 0 0 0]):=by rw [k7 _ (by omega),k6 _ (by omega),k5 _ (by omega),k4 _ (by omega),t3]
 rw [l4] at l5
 have hv:rd1 (rdO c (p + 1 + 1) :: T8) (.sl (N + 4) 0 0 0) = some (.ivs ([]:List (List Int)).length (aJ [])):=by
  refine zZ (cs:=[]) ?_ rfl rfl
  rw [List.getElem?_cons_succ,k8 _ (by omega),k7 _ (by omega),k6 _ (by omega),k5 _ (by omega),g4]
 have hw:rd1 (rdO c (p + 1 + 1) :: T8) (.sl (N + 5) 0 0 0) = some (.ivs ([]:List Bool).length (aK [])):=by
  refine sF ?_ rfl
  rw [List.getElem?_cons_succ,k8 _ (by omega),k7 _ (by omega),g6]
  rfl
 obtain ⟨h2',st_out,st_keep,st_trim⟩:=vF (al:=al) hv hw (by omega) (by omega)
 unfold autD at st_out ⊢
 clear hv hw k4 k5 k6 k7 k8 tr h1 l4 l6 l7 l8 hN
 obtain _ | n:=n; omega
 rw [nR]
 simp only [nO,Tryd.f51,SLM,simprocAttr]
 simp -implicitDefEqProofs (maxSteps:=2000000) (disch:=try exact Dz) only [↓DN,↓kAsg,↓kRet,UP,simprocAttr,LA,↓kd1,↓kd2,↓kd3,l1,h2,b2,h3,l3,t3,t4,t5,tb,h4,g4,t4b,h5,l5,t6b,h6,g6,t73,h7,g7,h8,g8,vS,tD,d7,eD,↓st_out,↓st_keep,↓st_trim,List.append_assoc,List.cons_append,List.nil_append]
end Ev
end Go.Proofs.YtppdfjdfjfoddaaDoor
