/-
  Where a letter leads: the program's table, the reference's step.
-/
import Derived.Test.YtppdfjdfjfoddaaDoorAutF
set_option linter.unusedSimpArgs false
set_option linter.unusedVariables false
set_option maxRecDepth 8000
set_option maxHeartbeats 4000000
namespace Go.Proofs.YtppdfjdfjfoddaaDoor
namespace Ev
def m9 (a l:Int):Nat:=((aD a).filter fun m => decide (m < l)).length
def goI (al:Int) (rs:List (List Int)) (q l:Int):Int:=if iM al l = true then (rs.getD q.toNat []).getD (m9 al l) 0 else q
theorem six {l:Int} (h0:0 ≤ l) (h1:l < 6):l = 0 ∨ l = 1 ∨ l = 2 ∨ l = 3 ∨ l = 4 ∨ l = 5:=by omega
theorem FN {a l:Int} (h0:0 ≤ l) (h1:l < 6) (hb:iM a l = true):m9 a l < (aD a).length ∧ (aD a)[m9 a l]? = some l:=by
 unfold m9 aD
 generalize iM a = p at *
 rcases six h0 h1 with rfl | rfl | rfl | rfl | rfl | rfl <;>
  cases h0':p 0 <;> cases h1':p 1 <;> cases h2':p 2 <;> cases h3':p 3 <;> cases h4':p 4 <;> cases h5':p 5 <;> simp_all [List.filter]
theorem qT {a l:Int}:l ∈ aD a ↔ (0 ≤ l ∧ l < 6) ∧ iM a l = true:=by
 unfold aD
 rw [List.mem_filter]
 constructor
 ·rintro ⟨h1,h2⟩
  simp at h1
  exact ⟨by omega,h2⟩
 ·rintro ⟨h1,h2⟩
  refine ⟨?_,h2⟩
  rcases six h1.1 h1.2 with rfl | rfl | rfl | rfl | rfl | rfl <;> simp
theorem S7 (a:Int):(aD a).Nodup:=by
 unfold aD
 exact List.Nodup.sublist List.filter_sublist (by decide)
def yP (q:Nat):Nat → Nat → List Int → List Int
 | 0,_,t => t
 | j + 1,i,t => yP q j (i + 1) (t.set (q * 6 + i) q)
def wL (q:Nat) (row:List Int):List Int → Nat → List Int → List Int
 | [],_,t => t
 | l :: ls,i,t => wL q row ls (i + 1) (t.set (q * 6 + l.toNat) (row.getD i 0))
def vT (ls:List Int):List (List Int) → Nat → List Int → List Int
 | [],_,t => t
 | r :: rs,q,t => vT ls rs (q + 1) (wL q r ls 0 (yP q 6 0 t))
def xR (al:Int) (rs:List (List Int)):List Int:=vT (aD al) rs 0 (List.replicate (rs.length * 6) 0)
theorem z8:∀ (j q i:Nat) (t:List Int),(yP q j i t).length = t.length
 | 0,_,_,_ => rfl
 | j + 1,q,i,t => by simp [yP,z8 j]
theorem ND:∀ (ls:List Int) (q i:Nat) (row t:List Int),(wL q row ls i t).length = t.length
 | [],_,_,_,_ => rfl
 | l :: ls,q,i,row,t => by simp [wL,ND ls]
theorem OS:∀ (rs:List (List Int)) (ls:List Int) (q:Nat) (t:List Int),(vT ls rs q t).length = t.length
 | [],_,_,_ => rfl
 | r :: rs,ls,q,t => by simp [vT,OS rs,ND,z8]
theorem wC (al:Int) (rs:List (List Int)):(xR al rs).length = rs.length * 6:=by simp [xR,OS]
theorem aA3 {t:List Int} {k p:Nat} {v:Int}:(t.set k v).getD p 0 = if p = k ∧ k < t.length then v else t.getD p 0:=by
 simp only [List.getD_eq_getElem?_getD,List.getElem?_set]
 by_cases h:k = p
 ·subst h
  by_cases h2:k < t.length
  ·simp [h2]
  ·simp [h2]
 ·have h':¬ p = k:=fun e => h e.symm
  simp [h,h']
theorem U3:∀ (j q i:Nat) (t:List Int) (p:Nat),q * 6 + i + j ≤ t.length → (yP q j i t).getD p 0 = if q * 6 + i ≤ p ∧ p < q * 6 + i + j then (q:Int) else t.getD p 0
 | 0,q,i,t,p,h => by
  simp only [yP]
  rw [if_neg (by omega)]
 | j + 1,q,i,t,p,h => by
  simp only [yP]
  rw [U3 j q (i + 1) _ p (by simp; omega),aA3]
  by_cases h1:q * 6 + (i + 1) ≤ p ∧ p < q * 6 + (i + 1) + j
  ·rw [if_pos h1,if_pos (by omega)]
  ·rw [if_neg h1]
   by_cases h2:p = q * 6 + i
   ·rw [if_pos ⟨h2,by omega⟩,if_pos (by omega)]
   ·rw [if_neg (by omega),if_neg (by omega)]
theorem yM:∀ (ls:List Int) (q i:Nat) (row t:List Int) (p:Nat),(∀ l ∈ ls,p ≠ q * 6 + l.toNat) → (wL q row ls i t).getD p 0 = t.getD p 0
 | [],_,_,_,_,_,_ => rfl
 | l :: ls,q,i,row,t,p,h => by
  simp only [wL]
  rw [yM ls q (i + 1) row _ p fun m hm => h m (by simp [hm]),aA3,if_neg]
  intro hc
  exact h l (by simp) hc.1
theorem WH:∀ (ls:List Int) (q i:Nat) (row t:List Int) (k:Nat) (l:Int),ls[k]? = some l → ls.Nodup → (∀ m ∈ ls,0 ≤ m) → q * 6 + l.toNat < t.length → (wL q row ls i t).getD (q * 6 + l.toNat) 0 = row.getD (i + k) 0
 | l' :: ls,q,i,row,t,0,l,h,hn,hp,hl => by
  simp only [List.getElem?_cons_zero,Option.some.injEq] at h
  subst h
  simp only [wL]
  rw [yM,aA3,if_pos ⟨rfl,hl⟩,Nat.add_zero]
  intro m hm hc
  have h1:m = l':=by
   have h2:=hp m (by simp [hm])
   have h3:=hp l' (by simp)
   omega
  subst h1
  exact (List.nodup_cons.1 hn).1 hm
 | l' :: ls,q,i,row,t,k + 1,l,h,hn,hp,hl => by
  simp only [wL]
  rw [WH ls q (i + 1) row _ k l (by simpa using h) (List.nodup_cons.1 hn).2 (fun m hm => hp m (by simp [hm])) (by simpa using hl)]
  congr 1
  omega
theorem aJc {a:Int}:∀ m ∈ aD a,0 ≤ m:=fun m hm => (qT.1 hm).1.1
theorem aFH {a:Int}:∀ (rs:List (List Int)) (q0:Nat) (t:List Int) (q l:Nat),l < 6 → (q0 + rs.length) * 6 ≤ t.length →
  (vT (aD a) rs q0 t).getD (q * 6 + l) 0 = if q0 ≤ q ∧ q < q0 + rs.length then (if iM a l = true then (rs.getD (q - q0) []).getD (m9 a l) 0 else (q:Int)) else t.getD (q * 6 + l) 0
 | [],q0,t,q,l,hl,ht => by
  simp only [vT]
  rw [if_neg (by simp only [List.length_nil]; omega)]
 | r :: rs,q0,t,q,l,hl,ht => by
  simp only [List.length_cons] at ht ⊢
  simp only [vT]
  rw [aFH rs (q0 + 1) _ q l hl (by rw [ND,z8]; omega)]
  by_cases h1:q0 + 1 ≤ q ∧ q < q0 + 1 + rs.length
  ·rw [if_pos h1,if_pos (show q0 ≤ q ∧ q < q0 + (rs.length + 1) by omega)]
   obtain ⟨d,hd⟩:∃ d,q - q0 = d + 1:=⟨q - q0 - 1,by omega⟩
   rw [hd,List.getD_cons_succ,show q - (q0 + 1) = d by omega]
  ·rw [if_neg h1]
   by_cases h2:q = q0
   ·subst h2
    rw [if_pos (show q ≤ q ∧ q < q + (rs.length + 1) by omega),Nat.sub_self,List.getD_cons_zero]
    by_cases hb:iM a l = true
    ·rw [if_pos hb]
     have hp:=FN (a:=a) (l:=l) (by omega) (by omega) hb
     have hg:=WH (aD a) q 0 r (yP q 6 0 t) (m9 a l) l hp.2 (S7 a) aJc (by rw [z8]; simp; omega)
     rw [Int.toNat_natCast] at hg
     rw [hg,Nat.zero_add]
    ·rw [if_neg hb,yM,U3 _ _ _ _ _ (by omega),if_pos (by omega)]
     intro m hm hc
     have hm2:=qT.1 hm
     have:m = l:=by omega
     subst this
     exact hb hm2.2
   ·rw [if_neg (show ¬ (q0 ≤ q ∧ q < q0 + (rs.length + 1)) by omega),yM,U3 _ _ _ _ _ (by omega),if_neg (by omega)]
    intro m hm hc
    have hm2:=qT.1 hm
    omega
theorem aLu {al:Int} {rs:List (List Int)} {q l:Int} (h0:0 ≤ q) (h1:q < rs.length) (h2:0 ≤ l) (h3:l < 6):(xR al rs).getD (q.toNat * 6 + l.toNat) 0 = goI al rs q l:=by
 unfold xR goI
 rw [aFH rs 0 _ q.toNat l.toNat (by omega) (by simp)]
 rw [if_pos (by omega),Nat.sub_zero,show ((l.toNat:Nat):Int) = l by omega,show ((q.toNat:Nat):Int) = q by omega]
theorem aKi {al:Int} {rs:List (List Int)} {q l:Int} (h0:0 ≤ q) (h1:q < rs.length) (h2:0 ≤ l) (h3:l < 6):((((ints (xR al rs)).drop (q.toNat * 6)).drop l.toNat).map A.d).head? = some (.d (.int .i64 (goI al rs q l))):=by
 rw [List.drop_drop,WO (by rw [wC]; omega),aLu h0 h1 h2 h3]
theorem u_t6:env.P.underlying 54 = some (.slice 58):=by kernel_rfl
theorem u_a6:env.P.underlying 58 = some (.array 6 3):=by kernel_rfl
theorem c_a6:env.P.cellsOf 58 = 6:=by kernel_rfl
theorem aGe:∀ n:Nat,(List.replicate n [D.int .i64 0,.int .i64 0,.int .i64 0,.int .i64 0,.int .i64 0,.int .i64 0]).flatten = ints (List.replicate (n * 6) 0)
 | 0 => rfl
 | n + 1 => by
  rw [List.replicate_succ,List.flatten_cons,aGe n,Nat.succ_mul]
  simp [ints,List.replicate_succ]
theorem aSv {n:Int} {h:H} (h0:0 ≤ n) (h1:n ≤ 4294967296):lT env.P h 54 n n = some (.sl h.length 0 0 n.toNat,h ++ [.arr (ints (List.replicate (n.toNat * 6) 0)) 6 0]):=by
 have hm:n ≤ (b5:Nat):=by unfold b5; omega
 have he:bH env.P 54 = some 58:=by kernel_rfl
 have hz:bS env.P 58 = some (.agg [.d (.int .i64 0),.d (.int .i64 0),.d (.int .i64 0),.d (.int .i64 0),.d (.int .i64 0),.d (.int .i64 0)]):=by kernel_rfl
 have hok:bO env.P 58 = true:=by kernel_rfl
 simp only [lT,he,hz,aR,AF,Option.map_some,hok,h0,hm,c_a6,Int.le_refl,and_self,if_true,aGe]
theorem nF {R:Type} {L n:Nat} (hn:1 ≤ n) {al q:Int} {rs:List (List Int)} (hs:bA rs) {r:List Int} (hq0:0 ≤ q) (hq1:q < rs.length) {k:Exit → List A → H → Option R}:∀ (j:Nat) (i:Int) (m:Nat) (t:List Int) (len:Nat) (h0:0 ≤ i) (hi:i + j = 6) (hm:j < m) (ht:t.length = rs.length * 6) (hlen:len = rs.length),
  aO env (aA env L n) L 0 [] (Z2 (U4 (U1 (Z8 (Z2 (Z1 (U2 (U1 (Z4 (U1 (Z8 (Z1 (U2 (U1 (Z16 ([])))))))))))))))) (gK 1) (U2 (Z4 (Z1 (U8 (U2 (U1 (Z2 (Z1 (U4 (Z1 (U16 (U8 (U4 ([])))))))))))))) m (Y2 (.d .nils :: .sl 0 0 0 len :: .d (.ivs (aD al).length (ints (aD al))) :: .d (.int .i64 q) :: .d (.ivs r.length (ints r)) :: Y8 (Y2 (Y1 (.d (.ivs rs.length (aJ rs)) :: .d (.int .i64 (rs.length)) :: .d (.int .i64 q) :: Y4 (.d (.int .i64 i) :: Y16 (Y8 (Y4 ([]))))))))) [.arr (ints t) 6 0] k
  = k (.exit 2) (Y2 (.d .nils :: .sl 0 0 0 rs.length :: .d (.ivs (aD al).length (ints (aD al))) :: .d (.int .i64 q) :: .d (.ivs r.length (ints r)) :: Y8 (Y2 (Y1 (.d (.ivs rs.length (aJ rs)) :: .d (.int .i64 (rs.length)) :: .d (.int .i64 q) :: Y4 (.d (.int .i64 6) :: Y16 (Y8 (Y4 ([]))))))))) [.arr (ints (yP q.toNat j i.toNat t)) 6 0]:=by
 intro j
 have hrl:=hs.1
 induction j with
 | zero =>
  intro i m t len h0 hi hm ht hlen
  obtain _ | m:=m; omega
  obtain rfl:i = 6:=by omega
  rw [KT]
  simp only [GD,Tryd.f34,SLM,simprocAttr]
  simp -implicitDefEqProofs (maxSteps:=2000000) (disch:=try exact Dz) only [↓DN,↓kAsg,↓kRet,UP,simprocAttr,↓b9,LA,Int.lt_irrefl,hlen]
  rfl
 | succ j ih =>
  intro i m t len h0 hi hm ht hlen
  obtain _ | m:=m; omega
  subst hlen
  have hc:i < 6:=by omega
  have hk:q.toNat * 6 + i.toNat < t.length:=by omega
  have e1:(i + 1).toNat = i.toNat + 1:=by omega
  have e2:((q.toNat:Nat):Int) = q:=by omega
  rw [KT]
  simp only [GD,Tryd.f34,SLM,simprocAttr]
  simp -implicitDefEqProofs (maxSteps:=2000000) (disch:=try exact Dz) only [↓DN,↓kAsg,↓kRet,UP,simprocAttr,↓b9,LA,hc,hq1,u_t6,u_a6,c_a6,aCc,d9,↓IY,↓ih]
  rw [e1]
  simp only [yP,e2]
theorem aIZ {t:List Int} {k:Nat} {v:Int} (h:k < t.length):List.take k (ints t) ++ [.int .i64 v] ++ List.drop (k + 1) (ints t) = ints (t.set k v):=DY h
theorem aH2 {a:Int} {i:Nat} (h:i < (aD a).length):(aD a).drop i = (aD a).getD i 0 :: (aD a).drop (i + 1):=eS h
theorem sM {R:Type} {L n:Nat} (hn:1 ≤ n) {al q:Int} {rs:List (List Int)} (hs:bA rs) {r:List Int} (hr:r.length ≤ 4294967296) (hrl2:(aD al).length ≤ r.length) (hq0:0 ≤ q) (hq1:q < rs.length) {k:Exit → List A → H → Option R}:∀ (j:Nat) (i:Int) (m:Nat) (t:List Int) (len:Nat) (h0:0 ≤ i) (hi:i + j = (aD al).length) (hm:j < m) (ht:t.length = rs.length * 6) (hlen:len = rs.length),
  aO env (aA env L n) L 0 [] (Z2 (U4 (U1 (Z8 (Z2 (Z1 (U2 (U1 (Z4 (U1 (Z8 (Z1 (U2 (U1 (Z16 ([])))))))))))))))) (gK 2) (U2 (Z4 (Z1 (U8 (U2 (U1 (Z2 (Z1 (U4 (Z1 (U8 (U1 (Z2 (Z1 (U16 ([])))))))))))))))) m (Y2 (.d .nils :: .sl 0 0 0 len :: .d (.ivs (aD al).length (ints (aD al))) :: .d (.int .i64 q) :: .d (.ivs r.length (ints r)) :: Y8 (Y2 (Y1 (.d (.ivs rs.length (aJ rs)) :: .d (.int .i64 (rs.length)) :: .d (.int .i64 q) :: Y4 (.d (.int .i64 6) :: Y8 (Y1 (.d (.ivs (aD al).length (ints (aD al))) :: .d (.int .i64 ((aD al).length)) :: .d (.int .i64 i) :: Y16 ([]))))))))) [.arr (ints t) 6 0] k
  = k (.exit 4) (Y2 (.d .nils :: .sl 0 0 0 rs.length :: .d (.ivs (aD al).length (ints (aD al))) :: .d (.int .i64 q) :: .d (.ivs r.length (ints r)) :: Y8 (Y2 (Y1 (.d (.ivs rs.length (aJ rs)) :: .d (.int .i64 (rs.length)) :: .d (.int .i64 q) :: Y4 (.d (.int .i64 6) :: Y8 (Y1 (.d (.ivs (aD al).length (ints (aD al))) :: .d (.int .i64 ((aD al).length)) :: .d (.int .i64 ((aD al).length)) :: Y16 ([]))))))))) [.arr (ints (wL q.toNat r ((aD al).drop i.toNat) i.toNat t)) 6 0]:=by
 intro j
 have hrl:=hs.1
 have hll:=eZ al
 induction j with
 | zero =>
  intro i m t len h0 hi hm ht hlen
  obtain _ | m:=m; omega
  obtain rfl:i = (aD al).length:=by omega
  rw [K0]
  simp only [GX,Tryd.f34,SLM,simprocAttr]
  simp -implicitDefEqProofs (maxSteps:=2000000) (disch:=try exact Dz) only [↓DN,↓kAsg,↓kRet,UP,simprocAttr,↓b9,↓nF,LA,Int.lt_irrefl,hlen]
  simp only [Int.toNat_natCast,List.drop_length,wL]
 | succ j ih =>
  intro i m t len h0 hi hm ht hlen
  obtain _ | m:=m; omega
  subst hlen
  have hc:i < (aD al).length:=by omega
  have hk1:i.toNat < (aD al).length:=by omega
  have hk2:i.toNat < r.length:=by omega
  have hv:=aPs lX hk1
  have hv6:(aD al).getD i.toNat 0 < 6:=by omega
  have hv0:=hv.1
  have hk:q.toNat * 6 + ((aD al).getD i.toNat 0).toNat < t.length:=by omega
  have e1:(i + 1).toNat = i.toNat + 1:=by omega
  rw [K0]
  simp only [GX,Tryd.f34,SLM,simprocAttr]
  simp -implicitDefEqProofs (maxSteps:=2000000) (disch:=try exact Dz) only [↓DN,↓kAsg,↓kRet,UP,simprocAttr,↓b9,↓nF,LA,hc,hq1,dW,u_t6,u_a6,c_a6,aCc,d9,↓IY,aIZ,↓ih]
  rw [aH2 hk1,e1]
  simp only [wL]
def pF (w:Nat) (rs:List (List Int)):Prop:=∀ r ∈ rs,r.length = w
theorem aEi {w:Nat} {rs:List (List Int)} (h:pF w rs) {k:Nat} (hk:k < rs.length):(rs.getD k []).length = w:=by
 rw [List.getD_eq_getElem?_getD,List.getElem?_eq_getElem hk]
 exact h _ (List.getElem_mem hk)
theorem MP {R:Type} {L n:Nat} (hL:2 ^ 60 ≤ L) (hn:1 ≤ n) {al:Int} {rs:List (List Int)} (hs:bA rs) (hw:pF (aD al).length rs) {k:Exit → List A → H → Option R}:∀ (j:Nat) (i:Int) (m:Nat) (t:List Int) (len:Nat) (h0:0 ≤ i) (hi:i + j = rs.length) (hm:j < m) (ht:t.length = rs.length * 6) (hlen:len = rs.length),
  aO env (aA env L n) L 0 [] (Z2 (U4 (U1 (Z8 (Z2 (Z1 (U2 (U1 (Z4 (U1 (Z8 (Z1 (U2 (U1 (Z16 ([])))))))))))))))) (gK 0) (U2 (Z2 (Z1 (U8 (U4 (U1 (Z2 (Z1 (U32 (U1 ([]))))))))))) m (Y2 (.d .nils :: .sl 0 0 0 len :: .d (.ivs (aD al).length (ints (aD al))) :: Y8 (Y4 (Y1 (.d (.ivs rs.length (aJ rs)) :: .d (.int .i64 (rs.length)) :: .d (.int .i64 i) :: Y32 (Y1 ([]))))))) [.arr (ints t) 6 0] k
  = k (.exit 0) (Y2 (.d .nils :: .sl 0 0 0 rs.length :: .d (.ivs (aD al).length (ints (aD al))) :: Y8 (Y4 (Y1 (.d (.ivs rs.length (aJ rs)) :: .d (.int .i64 (rs.length)) :: .d (.int .i64 (rs.length)) :: Y32 (Y1 ([]))))))) [.arr (ints (vT (aD al) (rs.drop i.toNat) i.toNat t)) 6 0]:=by
 intro j
 have hrl:=hs.1
 have hll:=eZ al
 induction j with
 | zero =>
  intro i m t len h0 hi hm ht hlen
  obtain _ | m:=m; omega
  obtain rfl:i = rs.length:=by omega
  rw [JY]
  simp only [GW,Tryd.f34,SLM,simprocAttr]
  simp -implicitDefEqProofs (maxSteps:=2000000) (disch:=try exact Dz) only [↓DN,↓kAsg,↓kRet,UP,simprocAttr,↓b9,↓nF,↓sM,LA,Int.lt_irrefl,hlen]
  simp only [Int.toNat_natCast,List.drop_length,vT]
 | succ j ih =>
  intro i m t len h0 hi hm ht hlen
  obtain _ | m:=m; omega
  subst hlen
  have hc:i < rs.length:=by omega
  have hk:i.toNat < rs.length:=by omega
  have hrow:=sR hs hk
  have hrw:=aEi hw hk
  have e1:(i + 1).toNat = i.toNat + 1:=by omega
  have loop_a1:=fun {R:Type} {k:Exit → List A → H → Option R} => nF (R:=R) (L:=L) (n:=n) hn (al:=al) (q:=i) (r:=rs.getD i.toNat []) hs h0 hc (k:=k) 6 0 L t rs.length (by omega) (by omega) (by omega) ht rfl
  have loop_a2:=fun {R:Type} {k:Exit → List A → H → Option R} => sM (R:=R) (L:=L) (n:=n) hn (al:=al) (q:=i) hs (r:=rs.getD i.toNat []) hrow (by omega) h0 hc (k:=k) (aD al).length 0 L (yP i.toNat 6 0 t) rs.length (by omega) (by omega) (by omega) (by rw [z8]; exact ht) rfl
  simp only [Int.toNat_zero,List.drop_zero] at loop_a1 loop_a2
  have ht2:(wL i.toNat (rs.getD i.toNat []) (aD al) 0 (yP i.toNat 6 0 t)).length = rs.length * 6:=by rw [ND,z8]; exact ht
  clear hrw
  rw [JY]
  simp only [GW,Tryd.f34,SLM,simprocAttr]
  simp -implicitDefEqProofs (maxSteps:=2000000) (disch:=try exact Dz) only [↓DN,↓kAsg,↓kRet,UP,simprocAttr,↓b9,↓nF,↓sM,LA,hc,dW,d7,eD,↓loop_a1,↓loop_a2,↓ih]
  rw [eS hk (d:=[]),e1]
  simp only [vT]
theorem aHo {L n:Nat} (hn:3 ≤ n) (al:Int) (rs:List (List Int)) (z:Nat) (cs:List D) (hs:bA rs) (hw:pF (aD al).length rs) (hL:2 ^ 60 ≤ L):aA env L n 34 [.agg [.d (.int .i64 al),.d (.ivs rs.length (aJ rs)),.d (.ivs z cs)]] [] = some (.d (.ivs rs.length (ints (xR al rs))),[]):=by
 have hrl:=hs.1
 have loop_a:=fun {R:Type} {n:Nat} (hn:1 ≤ n) {k:Exit → List A → H → Option R} => MP (R:=R) (L:=L) (n:=n) hL hn (al:=al) hs hw (k:=k) rs.length 0 L (List.replicate (rs.length * 6) 0) rs.length (by omega) (by omega) (by omega) (by simp) rfl
 simp only [Int.toNat_zero,List.drop_zero] at loop_a
 have htl:(xR al rs).length = rs.length * 6:=wC al rs
 have htl2:rs.length * 6 ≤ (vT (aD al) rs 0 (List.replicate (rs.length * 6) 0)).length:=by rw [OS]; simp
 have htk:(ints (vT (aD al) rs 0 (List.replicate (rs.length * 6) 0))).take (rs.length * 6) = ints (vT (aD al) rs 0 (List.replicate (rs.length * 6) 0)):=c8 (by rw [OS]; simp)
 unfold xR
 obtain _ | n:=n; omega
 rw [aHG]
 simp only [aAj,Tryd.f34,SLM,simprocAttr]
 simp -implicitDefEqProofs (maxSteps:=2000000) (disch:=try exact Dz) only [↓DN,↓kAsg,↓kRet,UP,simprocAttr,↓b9,↓MP,↓nF,↓sM,LA,dW,d7,eD,u_t6,u_a6,c_a6,↓aSv,↓loop_a,htk,dN,htl2]
theorem aHH {R:Type} {L n:Nat} {hq:H} {k:A → H → Option R} (hn:3 ≤ n) (al:Int) (rs:List (List Int)) (z:Nat) (cs:List D) (hs:bA rs) (hw:pF (aD al).length rs) (hL:2 ^ 60 ≤ L):aL env (aA env L n) hq 34 [.agg [.d (.int .i64 al),.d (.ivs rs.length (aJ rs)),.d (.ivs z cs)]] k = k (.d (.ivs rs.length (ints (xR al rs)))) hq :=
 a5 rfl (aHo hn al rs z cs hs hw hL) rfl (.inr rfl)
def cntB (a:Int):Nat → Int → Nat
 | 0,_ => 0
 | j + 1,i => (if iM a i = true then 1 else 0) + cntB a j (i + 1)
theorem aCw {a l:Int} (h0:0 ≤ l) (h1:l < 6):cntB a l.toNat 0 = m9 a l:=by
 unfold m9 aD
 generalize hp:iM a = p
 have e:∀ i,iM a i = p i:=fun i => by rw [hp]
 rcases six h0 h1 with rfl | rfl | rfl | rfl | rfl | rfl <;>
  simp only [cntB,e,show (0:Int).toNat = 0 from rfl,show (1:Int).toNat = 1 from rfl,show (2:Int).toNat = 2 from rfl,show (3:Int).toNat = 3 from rfl,show (4:Int).toNat = 4 from rfl,show (5:Int).toNat = 5 from rfl,Int.zero_add,Int.reduceAdd] <;>
  cases h0':p 0 <;> cases h1':p 1 <;> cases h2':p 2 <;> cases h3':p 3 <;> cases h4':p 4 <;> cases h5':p 5 <;> simp_all [List.filter]
theorem Q5 {R:Type} {L n:Nat} (hn:1 ≤ n) {a l:Int} (hl:l < 6) {k:Exit → List A → H → Option R}:∀ (j:Nat) (i c:Int) (m:Nat) (h0:0 ≤ i) (hi:i + j = l) (hm:j < m) (hc0:0 ≤ c) (hc1:c ≤ i),
  aO env (aA env L n) L 0 [] (U2 (Z2 (U2 (U1 (Z8 (Z2 (Z1 ([])))))))) (vO 0) (Z2 (U2 (Z2 (Z1 (U8 (U2 (U1 ([])))))))) m (.d (.int .i64 a) :: .d (.int .i64 l) :: Y2 (.d (.int .i64 0) :: .d (.int .i64 c) :: .d (.int .i64 i) :: Y8 (Y2 (Y1 ([]))))) [] k
  = k (.exit 0) (.d (.int .i64 a) :: .d (.int .i64 l) :: Y2 (.d (.int .i64 0) :: .d (.int .i64 ((c + cntB a j i))) :: .d (.int .i64 l) :: Y8 (Y2 (Y1 ([]))))) []:=by
 intro j
 induction j with
 | zero =>
  intro i c m h0 hi hm hc0 hc1
  obtain _ | m:=m; omega
  obtain rfl:i = l:=by omega
  rw [zD]
  simp only [yK,Tryd.f64,SLM,simprocAttr]
  simp -implicitDefEqProofs (maxSteps:=2000000) (disch:=try exact Dz) only [↓DN,↓kAsg,↓kRet,UP,simprocAttr,↓lY,Int.lt_irrefl]
  simp only [cntB,Int.natCast_zero,Int.add_zero]
 | succ j ih =>
  intro i c m h0 hi hm hc0 hc1
  obtain _ | m:=m; omega
  have hc:i < l:=by omega
  cases hb:iM a i with
  | true =>
   have e:c + 1 + (cntB a j (i + 1):Int) = c + cntB a (j + 1) i:=by simp only [cntB,hb,if_true]; omega
   rw [zD]
   simp only [yK,Tryd.f64,SLM,simprocAttr]
   simp -implicitDefEqProofs (maxSteps:=2000000) (disch:=try exact Dz) only [↓DN,↓kAsg,↓kRet,UP,simprocAttr,↓lY,hc,hb,↓ih]
   rw [e]
  | false =>
   have e:c + (cntB a j (i + 1):Int) = c + cntB a (j + 1) i:=by simp only [cntB,hb,Bool.false_eq_true,if_false]; omega
   rw [zD]
   simp only [yK,Tryd.f64,SLM,simprocAttr]
   simp -implicitDefEqProofs (maxSteps:=2000000) (disch:=try exact Dz) only [↓DN,↓kAsg,↓kRet,UP,simprocAttr,↓lY,hc,hb,↓ih]
   rw [e]
theorem aIT {L n:Nat} (hn:2 ≤ n) (a l:Int) (h0:0 ≤ l) (h1:l < 6) (hL:2 ^ 60 ≤ L):aA env L n 64 [.d (.int .i64 a),.d (.int .i64 l)] [] = some (.d (.int .i64 (m9 a l)),[]):=by
 have loop_a:=fun {R:Type} {n:Nat} (hn:1 ≤ n) {k:Exit → List A → H → Option R} => Q5 (R:=R) (L:=L) hn (a:=a) h1 (k:=k) l.toNat 0 0 L (by omega) (by omega) (by omega) (by omega) (by omega)
 rw [aCw h0 h1] at loop_a
 obtain _ | n:=n; omega
 rw [aHW]
 simp only [ZH,Tryd.f64,SLM,simprocAttr]
 simp -implicitDefEqProofs (maxSteps:=2000000) (disch:=try exact Dz) only [↓DN,↓kAsg,↓kRet,UP,simprocAttr,↓lY,↓Q5,↓loop_a,Int.zero_add]
theorem UZ {R:Type} {L n:Nat} {hq:H} {k:A → H → Option R} (hn:2 ≤ n) (a l:Int) (h0:0 ≤ l) (h1:l < 6) (hL:2 ^ 60 ≤ L):aL env (aA env L n) hq 64 [.d (.int .i64 a),.d (.int .i64 l)] k = k (.d (.int .i64 (m9 a l))) hq :=
 a5 rfl (aIT hn a l h0 h1 hL) rfl (.inl rfl)
theorem aSc {al q l:Int} {rs:List (List Int)} (h:iM al l = false):goI al rs q l = q:=by
 unfold goI; rw [h]; rfl
theorem aD7 {al q l:Int} {rs:List (List Int)} (h:iM al l = true):goI al rs q l = (rs.getD q.toNat []).getD (m9 al l) 0:=by
 unfold goI; rw [if_pos h]
theorem aFo {L n:Nat} (hn:3 ≤ n) (al q l:Int) (rs:List (List Int)) (z:Nat) (cs:List D) (hs:bA rs) (hw:pF (aD al).length rs) (hq0:0 ≤ q) (hq1:q < rs.length) (h0:0 ≤ l) (h1:l < 6) (hL:2 ^ 60 ≤ L):aA env L n 41 [.agg [.d (.int .i64 al),.d (.ivs rs.length (aJ rs)),.d (.ivs z cs)],.d (.int .i64 q),.d (.int .i64 l)] [] = some (.d (.int .i64 (goI al rs q l)),[]):=by
 have hrl:=hs.1
 have hk:q.toNat < rs.length:=by omega
 have hrow:=sR hs hk
 have hrw:=aEi hw hk
 cases hb:iM al l with
 | false =>
  rw [aSc hb]
  clear hrw
  obtain _ | n:=n; omega
  rw [aFB]
  simp only [aAS,Tryd.f41,SLM,simprocAttr]
  simp -implicitDefEqProofs (maxSteps:=2000000) (disch:=try exact Dz) only [↓DN,↓kAsg,↓kRet,UP,simprocAttr,↓lY,↓UZ,LA,hb]
 | true =>
  rw [aD7 hb]
  have hp:=(FN h0 h1 hb).1
  have hp2:m9 al l < (rs.getD q.toNat []).length:=by omega
  have hp3:(m9 al l:Int) < (rs.getD q.toNat []).length:=by omega
  have hp4:((m9 al l:Nat):Int).toNat = m9 al l:=Int.toNat_natCast _
  clear hrw hp
  obtain _ | n:=n; omega
  rw [aFB]
  simp only [aAS,Tryd.f41,SLM,simprocAttr]
  simp -implicitDefEqProofs (maxSteps:=2000000) (disch:=try exact Dz) only [↓DN,↓kAsg,↓kRet,UP,simprocAttr,↓lY,↓UZ,LA,hb,dW,d7,eD,d9,hp4]
theorem aOc {R:Type} {L n:Nat} {hq:H} {k:A → H → Option R} (hn:3 ≤ n) (al q l:Int) (rs:List (List Int)) (z:Nat) (cs:List D) (hs:bA rs) (hw:pF (aD al).length rs) (hq0:0 ≤ q) (hq1:q < rs.length) (h0:0 ≤ l) (h1:l < 6) (hL:2 ^ 60 ≤ L):aL env (aA env L n) hq 41 [.agg [.d (.int .i64 al),.d (.ivs rs.length (aJ rs)),.d (.ivs z cs)],.d (.int .i64 q),.d (.int .i64 l)] k = k (.d (.int .i64 (goI al rs q l))) hq :=
 a5 rfl (aFo hn al q l rs z cs hs hw hq0 hq1 h0 h1 hL) rfl (.inl rfl)
theorem aOG {R:Type} {L n:Nat} {k:A → Option R} (hn:3 ≤ n) (al q l:Int) (rs:List (List Int)) (z:Nat) (cs:List D) (hs:bA rs) (hw:pF (aD al).length rs) (hq0:0 ≤ q) (hq1:q < rs.length) (h0:0 ≤ l) (h1:l < 6) (hL:2 ^ 60 ≤ L):bL (aA env L n) 41 [.agg [.d (.int .i64 al),.d (.ivs rs.length (aJ rs)),.d (.ivs z cs)],.d (.int .i64 q),.d (.int .i64 l)] k = k (.d (.int .i64 (goI al rs q l))) :=
 fR (aFo hn al q l rs z cs hs hw hq0 hq1 h0 h1 hL) rfl
theorem aJq {R:Type} {L n:Nat} {hq:H} {k:A → H → Option R} {id0 g0 o0 len0:Nat} {al q l:Int} {z:Nat} {cs:List D}:aL env (aA env L n) hq 41 [.agg [.d (.int .i64 al),.sl id0 g0 o0 len0,.d (.ivs z cs)],.d (.int .i64 q),.d (.int .i64 l)] k = match box (cZ hq [.agg [.d (.int .i64 al),.sl id0 g0 o0 len0,.d (.ivs z cs)],.d (.int .i64 q),.d (.int .i64 l)]) with
  | .mk (some fs) => bL (aA env L n) 41 fs fun r => k r hq
  | _ => none:=aW yJ
theorem aJA {R:Type} {L n:Nat} {hq:H} {k:A → H → Option R} {id1 g1 o1 len1:Nat} {al q l:Int} {rs:List (List Int)}:aL env (aA env L n) hq 41 [.agg [.d (.int .i64 al),.d (.ivs rs.length (aJ rs)),.sl id1 g1 o1 len1],.d (.int .i64 q),.d (.int .i64 l)] k = match box (cZ hq [.agg [.d (.int .i64 al),.d (.ivs rs.length (aJ rs)),.sl id1 g1 o1 len1],.d (.int .i64 q),.d (.int .i64 l)]) with
  | .mk (some fs) => bL (aA env L n) 41 fs fun r => k r hq
  | _ => none:=aW yJ
theorem aJj {R:Type} {L n:Nat} {hq:H} {k:A → H → Option R} {id1 g1 o1 len1:Nat} {id0 g0 o0 len0:Nat} {al q l:Int}:aL env (aA env L n) hq 41 [.agg [.d (.int .i64 al),.sl id0 g0 o0 len0,.sl id1 g1 o1 len1],.d (.int .i64 q),.d (.int .i64 l)] k = match box (cZ hq [.agg [.d (.int .i64 al),.sl id0 g0 o0 len0,.sl id1 g1 o1 len1],.d (.int .i64 q),.d (.int .i64 l)]) with
  | .mk (some fs) => bL (aA env L n) 41 fs fun r => k r hq
  | _ => none:=aW yJ
theorem aMN {l:List (List Int)} {r:List Int} {z:Nat} (h:z = r.length):aJ l ++ [.ivs z (ints r)] = aJ (l ++ [r]):=by
 subst h
 simp [aJ,rowD]
theorem aNl:aJ [] = []:=rfl
section
def ES (mvs:List (List Int)) (dist:List Int) (d:Int):Bool:=mvs.any fun r => r.any fun m => decide (dist.getD m.toNat 0 = d)
def fT (tab:List (List (List Int))) (d:Int):Nat → Nat → List Int × Bool → List Int × Bool
 | 0,_,q => q
 | j + 1,i,q => if q.1.getD i 0 < 0 ∧ ES (tab.getD i []) q.1 (d - 1) = true then fT tab d j (i + 1) (q.1.set i d,true) else fT tab d j (i + 1) q
def fL (tab:List (List (List Int))):Nat → Int → List Int → List Int
 | 0,_,dist => dist
 | j + 1,d,dist => if (fT tab d dist.length 0 (dist,false)).2 = true then fL tab j (d + 1) (fT tab d dist.length 0 (dist,false)).1 else (fT tab d dist.length 0 (dist,false)).1
def addC (dist:List Int) (d:Int):List Int → List Int → List Int
 | [],out => out
 | m :: ms,out => if dist.getD m.toNat 0 = d ∧ m ∉ out then addC dist d ms (out ++ [m]) else addC dist d ms out
def bM (tab:List (List (List Int))) (dist:List Int) (k:Nat) (d:Int):List Int → List Int → List Int
 | [],out => out
 | v :: vs,out => bM tab dist k d vs (addC dist d ((tab.getD v.toNat []).getD k []) out)
def R4 (tab:List (List (List Int))) (dist:List Int) (at_:List Int) (d:Int):Nat → Nat → Nat × List Int
 | 0,k => (k,[])
 | j + 1,k => if bM tab dist k d at_ [] = [] then R4 tab dist at_ d j (k + 1) else (k,bM tab dist k d at_ [])
def sB (tab:List (List (List Int))) (dist:List Int) (ls:List Int):Nat → List Int → List Int
 | 0,_ => []
 | d + 1,at_ => ls.getD (R4 tab dist at_ d (ls.length + 1) 0).1 0 :: sB tab dist ls d (R4 tab dist at_ d (ls.length + 1) 0).2
def aDt (tab:List (List (List Int))) (ls:List Int) (dist:List Int) (s:Int):List Int × Bool :=
 if dist.getD s.toNat 0 < 0 then ([],false) else (sB tab dist ls (dist.getD s.toNat 0).toNat [s],true)
section
variable {nx:Int → Int → List Int} {gl:Int → Bool} {ls:List Int} {aM:Nat} {tab:List (List (List Int))}
def Away (nx:Int → Int → List Int) (ls:List Int) (gl:Int → Bool) (v:Int) (d:Nat):Prop:=∃ w g,w.length = d ∧ Path nx ls v w g ∧ gl g = true
def Far (nx:Int → Int → List Int) (ls:List Int) (gl:Int → Bool) (v:Int) (d:Nat):Prop:=Away nx ls gl v d ∧ ∀ e,e < d → ¬ Away nx ls gl v e
theorem XG {v:Int}:Away nx ls gl v 0 ↔ gl v = true:=by
 constructor
 ·rintro ⟨w,g,h1,h2,h3⟩
  have:w = []:=List.length_eq_zero_iff.1 h1
  subst this
  rw [show v = g from h2]; exact h3
 ·intro h; exact ⟨[],v,rfl,rfl,h⟩
theorem MV {v:Int} {d:Nat}:Away nx ls gl v (d + 1) ↔ ∃ l ∈ ls,∃ m ∈ nx v l,Away nx ls gl m d:=by
 constructor
 ·rintro ⟨w,g,h1,h2,h3⟩
  cases w with
  | nil => simp at h1
  | cons l w =>
   obtain ⟨hl,m,hm,hp⟩:=h2
   exact ⟨l,hl,m,hm,w,g,by simpa using h1,hp,h3⟩
 ·rintro ⟨l,hl,m,hm,w,g,h1,h2,h3⟩
  exact ⟨l :: w,g,by simp [h1],⟨hl,m,hm,h2⟩,h3⟩
theorem IF {v:Int} {d e:Nat} (h:Far nx ls gl v d) (k:Far nx ls gl v e):d = e:=by
 rcases Nat.lt_trichotomy d e with h1 | h1 | h1
 ·exact (k.2 d h1 h.1).elim
 ·exact h1
 ·exact (h.2 e h1 k.1).elim
theorem aPf {v:Int}:∀ {d:Nat},Away nx ls gl v d → ∃ e,e ≤ d ∧ Far nx ls gl v e:=by
 intro d
 induction d using Nat.strongRecOn with
 | _ d ih =>
  intro h
  by_cases hd:∃ e,e < d ∧ Away nx ls gl v e
  ·obtain ⟨e,h1,h2⟩:=hd
   obtain ⟨f,h3,h4⟩:=ih e h1 h2
   exact ⟨f,by omega,h4⟩
  ·exact ⟨d,Nat.le_refl _,h,fun e he ha => hd ⟨e,he,ha⟩⟩
theorem RN {v:Int} {d:Nat} (h:Far nx ls gl v (d + 1)):∃ l ∈ ls,∃ m ∈ nx v l,Far nx ls gl m d:=by
 obtain ⟨l,hl,m,hm,ha⟩:=MV.1 h.1
 refine ⟨l,hl,m,hm,ha,fun e he h2 => ?_⟩
 exact h.2 (e + 1) (by omega) (MV.2 ⟨l,hl,m,hm,h2⟩)
structure Tab (nx:Int → Int → List Int) (ls:List Int) (aM:Nat) (tab:List (List (List Int))):Prop where
 len:tab.length = aM
 row:∀ v:Nat,v < aM → tab.getD v [] = ls.map (nx v)
 rng:∀ v c:Int,0 ≤ v → v < aM → c ∈ ls → ∀ m ∈ nx v c,0 ≤ m ∧ m < aM
def aB3 (nx:Int → Int → List Int) (ls:List Int) (gl:Int → Bool) (aM:Nat) (dist:List Int) (d:Nat):Prop :=
 dist.length = aM ∧ ∀ i:Nat,i < aM → (∃ k:Nat,k ≤ d ∧ dist.getD i 0 = k ∧ Far nx ls gl i k) ∨ (dist.getD i 0 = -1 ∧ ∀ e,e ≤ d → ¬ Away nx ls gl i e)
theorem WN {dist:List Int} {d:Nat} (h:aB3 nx ls gl aM dist d) {v:Int} {k:Nat} (h0:0 ≤ v) (h1:v < aM) (hk:k ≤ d):dist.getD v.toNat 0 = k ↔ Far nx ls gl v k:=by
 have hv:((v.toNat:Nat):Int) = v:=by omega
 rcases h.2 v.toNat (by omega) with ⟨e,h2,h3,h4⟩ | ⟨h3,h4⟩
 ·rw [hv] at h4
  constructor
  ·intro h5
   have:e = k:=by omega
   rw [← this]; exact h4
  ·intro h5
   rw [h3,IF h4 h5]
 ·rw [hv] at h4
  constructor
  ·intro h5; omega
  ·intro h5; exact (h4 k hk h5.1).elim
theorem aPc (ht:Tab nx ls aM tab) {dist old:List Int} {d:Nat} (hk:aB3 nx ls gl aM old d) {v:Nat} (hv:v < aM) (hs:∀ i:Nat,i < aM → (dist.getD i 0 = d ↔ old.getD i 0 = d)) :
  ES (tab.getD v []) dist d = true ↔ ∃ l ∈ ls,∃ m ∈ nx v l,Far nx ls gl m d:=by
 unfold ES
 rw [ht.row v hv]
 simp only [List.any_map,List.any_eq_true,Function.comp,decide_eq_true_eq]
 constructor
 ·rintro ⟨l,hl,m,hm,h⟩
  have hr:=ht.rng v l (by omega) (by omega) hl m hm
  rw [hs m.toNat (by omega)] at h
  exact ⟨l,hl,m,hm,(WN hk hr.1 hr.2 (Nat.le_refl _)).1 h⟩
 ·rintro ⟨l,hl,m,hm,h⟩
  have hr:=ht.rng v l (by omega) (by omega) hl m hm
  refine ⟨l,hl,m,hm,?_⟩
  rw [hs m.toNat (by omega)]
  exact (WN hk hr.1 hr.2 (Nat.le_refl _)).2 h
theorem aFp {α:Type} {l:List α} {i j:Nat} {x d:α} (h:i < l.length):(l.set i x).getD j d = if i = j then x else l.getD j d:=by
 rw [List.getD_eq_getElem?_getD,List.getElem?_set,List.getD_eq_getElem?_getD]
 by_cases hij:i = j
 ·subst hij; simp [h]
 ·simp [hij]
open Classical in
theorem aTa (ht:Tab nx ls aM tab) {old:List Int} {d:Nat} (hk:aB3 nx ls gl aM old d):∀ (j i:Nat) (q:List Int × Bool),i + j = aM → q.1.length = aM → (∀ x:Nat,x < aM → q.1.getD x 0 = if x < i ∧ Far nx ls gl x (d + 1) then ((d + 1:Nat):Int) else old.getD x 0) → (q.2 = true ↔ ∃ x:Nat,x < i ∧ Far nx ls gl x (d + 1)) →
  (fT tab ((d + 1:Nat):Int) j i q).1.length = aM ∧ (∀ x:Nat,x < aM → (fT tab ((d + 1:Nat):Int) j i q).1.getD x 0 = if Far nx ls gl x (d + 1) then ((d + 1:Nat):Int) else old.getD x 0) ∧ ((fT tab ((d + 1:Nat):Int) j i q).2 = true ↔ ∃ x:Nat,x < aM ∧ Far nx ls gl x (d + 1)):=by
 intro j
 induction j with
 | zero =>
  intro i q hi hl hq hb
  obtain rfl:i = aM:=by omega
  refine ⟨hl,fun x hx => ?_,hb⟩
  have:=hq x hx
  simp only [hx,true_and] at this
  exact this
 | succ j ih =>
  intro i q hi hl hq hb
  have hit:i < aM:=by omega
  have e1:((d + 1:Nat):Int) - 1 = (d:Int):=by omega
  have hqi:q.1.getD i 0 = old.getD i 0:=by
   rw [hq i hit,if_neg (by omega)]
  have hnear:=aPc ht hk hit (dist:=q.1) fun x hx => by
   rw [hq x hx]
   split
   ·rename_i h
    constructor
    ·intro h2; omega
    ·intro h2
     have:=(WN hk (v:=(x:Int)) (by omega) (by omega) (Nat.le_refl d)).1 (by simpa using h2)
     have:=IF h.2 this
     omega
   ·exact Iff.rfl
  have hfar:(q.1.getD i 0 < 0 ∧ ES (tab.getD i []) q.1 (((d + 1:Nat):Int) - 1) = true) ↔ Far nx ls gl i (d + 1):=by
   rw [e1,hnear,hqi]
   constructor
   ·rintro ⟨h1,l,hl,m,hm,h2⟩
    rcases hk.2 i hit with ⟨k,_,h3,_⟩ | ⟨_,h4⟩
    ·omega
    ·exact ⟨MV.2 ⟨l,hl,m,hm,h2.1⟩,fun e he => h4 e (by omega)⟩
   ·intro h
    refine ⟨?_,RN h⟩
    rcases hk.2 i hit with ⟨k,h2,h3,h4⟩ | ⟨h3,_⟩
    ·have:=IF h h4
     omega
    ·omega
  unfold fT
  by_cases hc:Far nx ls gl i (d + 1)
  ·rw [if_pos (hfar.2 hc)]
   refine ih (i + 1) _ (by omega) (by simpa using hl) (fun x hx => ?_) ?_
   ·simp only
    rw [aFp (by omega)]
    by_cases hix:i = x
    ·subst hix
     rw [if_pos rfl,if_pos ⟨by omega,hc⟩]
    ·rw [if_neg hix,hq x hx]
     by_cases hxi:x < i
     ·simp only [hxi,show x < i + 1 by omega,true_and]
     ·simp only [hxi,show ¬ x < i + 1 by omega,false_and,if_false]
   ·simp only [true_iff]
    exact ⟨i,by omega,hc⟩
  ·rw [if_neg (fun h => hc (hfar.1 h))]
   refine ih (i + 1) q (by omega) hl (fun x hx => ?_) ?_
   ·rw [hq x hx]
    by_cases hix:i = x
    ·subst hix
     simp only [hc,and_false,if_false]
    ·by_cases hxi:x < i
     ·simp only [hxi,show x < i + 1 by omega,true_and]
     ·simp only [hxi,show ¬ x < i + 1 by omega,false_and,if_false]
   ·rw [hb]
    constructor
    ·rintro ⟨x,h1,h2⟩; exact ⟨x,by omega,h2⟩
    ·rintro ⟨x,h1,h2⟩
     by_cases hix:x = i
     ·subst hix; exact (hc h2).elim
     ·exact ⟨x,by omega,h2⟩
def Full (nx:Int → Int → List Int) (ls:List Int) (gl:Int → Bool) (aM:Nat) (dist:List Int):Prop :=
 dist.length = aM ∧ ∀ i:Nat,i < aM → (∃ k:Nat,dist.getD i 0 = k ∧ Far nx ls gl i k) ∨ (dist.getD i 0 = -1 ∧ ∀ e,¬ Away nx ls gl i e)
theorem UB:∀ {l:List Int} {i:Nat} {x:Int},l.getD i 0 < 0 → i < l.length → 0 ≤ x → (l.set i x).countP (· < 0) + 1 = l.countP (· < 0)
 | [],i,x,h,hi,hx => by simp at hi
 | a :: l,0,x,h,hi,hx => by
  simp at h
  simp only [List.set_cons_zero,List.countP_cons]
  simp [h,show ¬ x < 0 by omega]
 | a :: l,i + 1,x,h,hi,hx => by
  have ih:=UB (l:=l) (i:=i) (x:=x) (by simpa using h) (by simpa using hi) hx
  simp only [List.set_cons_succ,List.countP_cons]
  omega
theorem X6 {d:Int} (hd:0 ≤ d):∀ (j i:Nat) (q:List Int × Bool),i + j = q.1.length → (fT tab d j i q).1.countP (· < 0) ≤ q.1.countP (· < 0) ∧ ((fT tab d j i q).2 = true → q.2 = true ∨ (fT tab d j i q).1.countP (· < 0) < q.1.countP (· < 0))
 | 0,i,q,h => ⟨Nat.le_refl _,fun h => .inl h⟩
 | j + 1,i,q,h => by
  unfold fT
  split
  ·rename_i hc
   have h1:=UB (l:=q.1) (i:=i) (x:=d) hc.1 (by omega) hd
   obtain ⟨h2,h3⟩:=X6 hd j (i + 1) (q.1.set i d,true) (by simp; omega)
   simp only at h2
   exact ⟨by omega,fun _ => .inr (by omega)⟩
  ·exact X6 hd j (i + 1) q (by omega)
open Classical in
theorem aLT (ht:Tab nx ls aM tab):∀ (j d:Nat) (dist:List Int),aB3 nx ls gl aM dist d → dist.countP (· < 0) < j → Full nx ls gl aM (fL tab j ((d + 1:Nat):Int) dist)
 | 0,d,dist,hk,hj => by omega
 | j + 1,d,dist,hk,hj => by
  have h0:∀ x:Nat,x < aM → dist.getD x 0 = if x < 0 ∧ Far nx ls gl x (d + 1) then ((d + 1:Nat):Int) else dist.getD x 0:=fun x hx => by
   rw [if_neg (by omega)]
  obtain ⟨h1,h2,h3⟩:=aTa ht hk aM 0 (dist,false) (by omega) hk.1 h0 (by simp)
  have hc:=X6 (tab:=tab) (d:=((d + 1:Nat):Int)) (by omega) dist.length 0 (dist,false) (by simp)
  unfold fL
  rw [← hk.1] at h1 h2 h3
  generalize fT tab ((d + 1:Nat):Int) dist.length 0 (dist,false) = r at *
  rw [hk.1] at h1 h2 h3
  split
  ·rename_i hb
   have hlt:=hc.2 hb
   simp only [Bool.false_eq_true,false_or] at hlt
   refine aLT ht j (d + 1) r.1 ⟨h1,fun i hi => ?_⟩ (by omega)
   rw [h2 i hi]
   split
   ·rename_i hf
    exact .inl ⟨d + 1,Nat.le_refl _,rfl,hf⟩
   ·rename_i hf
    rcases hk.2 i hi with ⟨k,g1,g2,g3⟩ | ⟨g1,g2⟩
    ·exact .inl ⟨k,by omega,g2,g3⟩
    ·refine .inr ⟨g1,fun e he ha => ?_⟩
     by_cases hed:e = d + 1
     ·subst hed
      exact hf ⟨ha,fun e' he' => g2 e' (by omega)⟩
     ·exact g2 e (by omega) ha
  ·rename_i hb
   have hno:∀ i:Nat,i < aM → ¬ Far nx ls gl i (d + 1):=fun i hi hf => hb (h3.2 ⟨i,hi,hf⟩)
   have hnone:∀ e:Nat,∀ i:Nat,i < aM → d < e → ¬ Far nx ls gl i e:=by
    intro e
    induction e with
    | zero => intro i hi he; omega
    | succ e ih =>
     intro i hi he hf
     by_cases hed:e = d
     ·subst hed; exact hno i hi hf
     ·obtain ⟨l,hl,m,hm,hfm⟩:=RN hf
      have hr:=ht.rng i l (by omega) (by omega) hl m hm
      refine ih m.toNat (by omega) (by omega) ?_
      rw [show ((m.toNat:Nat):Int) = m by omega]; exact hfm
   refine ⟨h1,fun i hi => ?_⟩
   rw [h2 i hi,if_neg (hno i hi)]
   rcases hk.2 i hi with ⟨k,g1,g2,g3⟩ | ⟨g1,g2⟩
   ·exact .inl ⟨k,g2,g3⟩
   ·refine .inr ⟨g1,fun e ha => ?_⟩
    obtain ⟨f,h4,h5⟩:=aPf ha
    by_cases hfd:f ≤ d
    ·exact g2 f hfd h5.1
    ·exact hnone f i hi (by omega) h5
theorem aBq {dist:List Int} {d:Int}:∀ (ms out:List Int) (x:Int),x ∈ addC dist d ms out ↔ x ∈ out ∨ (x ∈ ms ∧ dist.getD x.toNat 0 = d)
 | [],out,x => by simp [addC]
 | m :: ms,out,x => by
  unfold addC
  split
  ·rename_i h
   rw [aBq ms,List.mem_append,List.mem_singleton,List.mem_cons]
   constructor
   ·rintro ((k | rfl) | k)
    ·exact .inl k
    ·exact .inr ⟨.inl rfl,h.1⟩
    ·exact .inr ⟨.inr k.1,k.2⟩
   ·rintro (k | ⟨rfl | k,k2⟩)
    ·exact .inl (.inl k)
    ·exact .inl (.inr rfl)
    ·exact .inr ⟨k,k2⟩
  ·rename_i h
   rw [aBq ms,List.mem_cons]
   constructor
   ·rintro (k | k)
    ·exact .inl k
    ·exact .inr ⟨.inr k.1,k.2⟩
   ·rintro (k | ⟨rfl | k,k2⟩)
    ·exact .inl k
    ·by_cases hx:x ∈ out
     ·exact .inl hx
     ·exact (h ⟨k2,hx⟩).elim
    ·exact .inr ⟨k,k2⟩
theorem SA {dist:List Int} {k:Nat} {d:Int}:∀ (vs out:List Int) (x:Int),x ∈ bM tab dist k d vs out ↔ x ∈ out ∨ (∃ v ∈ vs,x ∈ (tab.getD v.toNat []).getD k [] ∧ dist.getD x.toNat 0 = d)
 | [],out,x => by simp [bM]
 | v :: vs,out,x => by
  unfold bM
  rw [SA vs,aBq]
  constructor
  ·rintro ((h | h) | ⟨u,h1,h2⟩)
   ·exact .inl h
   ·exact .inr ⟨v,List.mem_cons_self,h⟩
   ·exact .inr ⟨u,List.mem_cons_of_mem _ h1,h2⟩
  ·rintro (h | ⟨u,h1,h2⟩)
   ·exact .inl (.inl h)
   ·rcases List.mem_cons.1 h1 with rfl | h1
    ·exact .inl (.inr h2)
    ·exact .inr ⟨u,h1,h2⟩
theorem aEp {dist at_:List Int} {d:Int}:∀ (j k:Nat),(∃ e,k ≤ e ∧ e < k + j ∧ bM tab dist e d at_ [] ≠ []) → ∃ e,k ≤ e ∧ e < k + j ∧ R4 tab dist at_ d j k = (e,bM tab dist e d at_ []) ∧ bM tab dist e d at_ [] ≠ [] ∧ ∀ f,k ≤ f → f < e → bM tab dist f d at_ [] = []
 | 0,k,⟨e,h1,h2,_⟩ => by omega
 | j + 1,k,⟨e,h1,h2,h3⟩ => by
  unfold R4
  split
  ·rename_i hc
   have hek:e ≠ k:=fun h => h3 (h ▸ hc)
   obtain ⟨f,g1,g2,g3,g4,g5⟩:=aEp j (k + 1) ⟨e,by omega,by omega,h3⟩
   refine ⟨f,by omega,by omega,g3,g4,fun x hx1 hx2 => ?_⟩
   by_cases hxk:x = k
   ·subst hxk; exact hc
   ·exact g5 x (by omega) hx2
  ·rename_i hc
   exact ⟨k,Nat.le_refl _,by omega,rfl,hc,fun f h h' => by omega⟩
theorem LG {dist:List Int} (h:Full nx ls gl aM dist) {v:Int} {k:Nat} (h0:0 ≤ v) (h1:v < aM):dist.getD v.toNat 0 = k ↔ Far nx ls gl v k:=by
 have hv:((v.toNat:Nat):Int) = v:=by omega
 rcases h.2 v.toNat (by omega) with ⟨e,h3,h4⟩ | ⟨h3,h4⟩
 ·rw [hv] at h4
  constructor
  ·intro h5
   have:e = k:=by omega
   rw [← this]; exact h4
  ·intro h5
   rw [h3,IF h4 h5]
 ·rw [hv] at h4
  constructor
  ·intro h5; omega
  ·intro h5; exact (h4 k h5.1).elim
theorem YF (ht:Tab nx ls aM tab) {v:Int} {k:Nat} (h0:0 ≤ v) (h1:v < aM) (hk:k < ls.length):(tab.getD v.toNat []).getD k [] = nx v (ls.getD k 0):=by
 rw [ht.row v.toNat (by omega),show ((v.toNat:Nat):Int) = v by omega,List.getD_eq_getElem?_getD,List.getElem?_map,List.getElem?_eq_getElem hk,List.getD_eq_getElem?_getD,List.getElem?_eq_getElem hk]
 rfl
theorem aEa:∀ {l:List Int} {i j:Nat},l.Pairwise (· < ·) → i < j → j < l.length → l.getD i 0 < l.getD j 0
 | [],i,j,_,_,h => by simp at h
 | a :: l,0,j + 1,h,_,hj => by
  have hj':j < l.length:=by simpa using hj
  have:=(List.pairwise_cons.1 h).1 (l.getD j 0) (by rw [List.getD_eq_getElem?_getD,List.getElem?_eq_getElem hj']; exact List.getElem_mem hj')
  simpa using this
 | a :: l,i + 1,j + 1,h,hij,hj => by
  have:=aEa (List.pairwise_cons.1 h).2 (i:=i) (j:=j) (by omega) (by simpa using hj)
  simpa using this
theorem aOw (ht:Tab nx ls aM tab) {dist:List Int} (hf:Full nx ls gl aM dist) (ha:ls.Pairwise (· < ·)):∀ (d:Nat) (at_:List Int),(∀ v ∈ at_,(0 ≤ v ∧ v < aM) ∧ Far nx ls gl v d) → at_ ≠ [] →
  (sB tab dist ls d at_).length = d ∧ (∃ v ∈ at_,∃ g,Path nx ls v (sB tab dist ls d at_) g ∧ gl g = true) ∧ ∀ w v g,v ∈ at_ → w.length = d → Path nx ls v w g → gl g = true → ¬ vW w (sB tab dist ls d at_):=by
 intro d
 induction d with
 | zero =>
  intro at_ hat hne
  refine ⟨rfl,?_,fun w v g _ hw _ _ h => ?_⟩
  ·cases at_ with
   | nil => exact (hne rfl).elim
   | cons v vs =>
    have:=(hat v List.mem_cons_self).2
    exact ⟨v,List.mem_cons_self,v,rfl,XG.1 this.1⟩
  ·have:w = []:=List.length_eq_zero_iff.1 hw
   subst this
   exact h
 | succ d ih =>
  intro at_ hat hne
  have hmem:∀ k x,k < ls.length → (x ∈ bM tab dist k d at_ [] ↔ ∃ v ∈ at_,x ∈ nx v (ls.getD k 0) ∧ Far nx ls gl x d):=by
   intro k x hk
   rw [SA]
   simp only [List.not_mem_nil,false_or]
   constructor
   ·rintro ⟨v,hv,h1,h2⟩
    have hr:=(hat v hv).1
    rw [YF ht hr.1 hr.2 hk] at h1
    have hl:ls.getD k 0 ∈ ls:=by rw [List.getD_eq_getElem?_getD,List.getElem?_eq_getElem hk]; exact List.getElem_mem hk
    have hx:=ht.rng v _ hr.1 hr.2 hl x h1
    exact ⟨v,hv,h1,(LG hf hx.1 hx.2).1 h2⟩
   ·rintro ⟨v,hv,h1,h2⟩
    have hr:=(hat v hv).1
    have hl:ls.getD k 0 ∈ ls:=by rw [List.getD_eq_getElem?_getD,List.getElem?_eq_getElem hk]; exact List.getElem_mem hk
    have hx:=ht.rng v _ hr.1 hr.2 hl x h1
    exact ⟨v,hv,by rw [YF ht hr.1 hr.2 hk]; exact h1,(LG hf hx.1 hx.2).2 h2⟩
  have hidx:∀ l ∈ ls,∃ k,k < ls.length ∧ ls.getD k 0 = l:=by
   intro l hl
   obtain ⟨k,hk,h⟩:=List.getElem_of_mem hl
   exact ⟨k,hk,by rw [List.getD_eq_getElem?_getD,List.getElem?_eq_getElem hk,h]; rfl⟩
  obtain ⟨v0,hv0⟩:∃ v,v ∈ at_:=by
   cases at_ with
   | nil => exact (hne rfl).elim
   | cons v vs => exact ⟨v,List.mem_cons_self⟩
  obtain ⟨l0,hl0,m0,hm0,hfm0⟩:=RN (hat v0 hv0).2
  obtain ⟨k0,hk0,e0⟩:=hidx l0 hl0
  have hne0:bM tab dist k0 d at_ [] ≠ []:=by
   intro h
   have:=(hmem k0 m0 hk0).2 ⟨v0,hv0,by rw [e0]; exact hm0,hfm0⟩
   rw [h] at this; cases this
  obtain ⟨e,_,h2,h3,h4,h5⟩:=aEp (tab:=tab) (dist:=dist) (at_:=at_) (d:=d) (ls.length + 1) 0 ⟨k0,by omega,by omega,hne0⟩
  have hel:e < ls.length:=by
   apply Nat.lt_of_not_le
   intro h
   by_cases he0:k0 < e
   ·exact hne0 (h5 k0 (by omega) he0)
   ·omega
  have hel2:ls.getD e 0 ∈ ls:=by rw [List.getD_eq_getElem?_getD,List.getElem?_eq_getElem hel]; exact List.getElem_mem hel
  unfold sB
  rw [h3]
  simp only
  have hat2:∀ x ∈ bM tab dist e d at_ [],(0 ≤ x ∧ x < aM) ∧ Far nx ls gl x d:=by
   intro x hx
   obtain ⟨v,hv,g1,g2⟩:=(hmem e x hel).1 hx
   have hr:=(hat v hv).1
   exact ⟨ht.rng v _ hr.1 hr.2 hel2 x g1,g2⟩
  obtain ⟨i1,⟨m,hm,g,i2,i3⟩,i4⟩:=ih _ hat2 h4
  refine ⟨by simp [i1],?_,?_⟩
  ·obtain ⟨v,hv,g1,g2⟩:=(hmem e m hel).1 hm
   exact ⟨v,hv,g,⟨hel2,m,g1,i2⟩,i3⟩
  ·intro w v g' hv hw hp hg hlt
   cases w with
   | nil => simp at hw
   | cons l w =>
    obtain ⟨hl,m',hm',hp'⟩:=hp
    have hfm:Far nx ls gl m' d:=by
     refine ⟨⟨w,g',by simpa using hw,hp',hg⟩,fun x hx hax => ?_⟩
     exact (hat v hv).2.2 (x + 1) (by omega) (MV.2 ⟨l,hl,m',hm',hax⟩)
    obtain ⟨k,hk,ek⟩:=hidx l hl
    have hmc:m' ∈ bM tab dist k d at_ []:=(hmem k m' hk).2 ⟨v,hv,by rw [ek]; exact hm',hfm⟩
    have hke:e ≤ k:=by
     apply Nat.le_of_not_lt
     intro h
     rw [h5 k (by omega) h] at hmc; cases hmc
    rcases hlt with h | ⟨h,h'⟩
    ·by_cases hek:e = k
     ·subst hek; omega
     ·have:=aEa ha (i:=e) (j:=k) (by omega) hk
      omega
    ·have:e = k:=by
      apply Nat.le_antisymm hke
      apply Nat.le_of_not_lt
      intro hc
      have:=aEa ha (i:=e) (j:=k) hc hk
      omega
     subst this
     exact i4 w m' g' hmc (by simpa using hw) hp' hg h'
theorem aO5 (ht:Tab nx ls aM tab) {dist:List Int} (hf:Full nx ls gl aM dist) (ha:ls.Pairwise (· < ·)) {s:Int} (h0:0 ≤ s) (h1:s < aM):N9 (Hits nx ls [s] gl) (aDt tab ls dist s):=by
 have hv:((s.toNat:Nat):Int) = s:=by omega
 unfold aDt
 rcases hf.2 s.toNat (by omega) with ⟨k,h2,h3⟩ | ⟨h2,h3⟩
 ·rw [hv] at h3
  rw [h2,if_neg (by omega),Int.toNat_natCast]
  obtain ⟨i1,⟨v,hv1,g,i2,i3⟩,i4⟩:=aOw ht hf ha k [s] (fun v hv => by simp at hv; subst hv; exact ⟨⟨h0,h1⟩,h3⟩) (by simp)
  have:v = s:=by simpa using hv1
  subst this
  refine .inl ⟨rfl,⟨g,⟨v,by simp,i2⟩,i3⟩,?_⟩
  rintro x ⟨u,⟨y,hy,hp⟩,hg⟩ hlt
  have:y = v:=by simpa using hy
  subst this
  have hlt':slt x (sB tab dist ls k [y]):=hlt
  rcases hlt' with h | ⟨h,h'⟩
  ·exact h3.2 x.length (by omega) ⟨x,u,rfl,hp,hg⟩
  ·exact i4 x y u (by simp) (by omega) hp hg h'
 ·rw [hv] at h3
  rw [h2,if_pos (by omega)]
  refine .inr ⟨rfl,?_⟩
  rintro w ⟨u,⟨y,hy,hp⟩,hg⟩
  have:y = s:=by simpa using hy
  subst this
  exact h3 w.length ⟨w,u,rfl,hp,hg⟩
end
end
end Ev
end Go.Proofs.YtppdfjdfjfoddaaDoor
