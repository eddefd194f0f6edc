/-
  Words: what the functions on words give.
-/
import Derived.Test.YtppdfjdfjfoddaaDoorAutoL
import Derived.Test.YtppdfjdfjfoddaaDoorMemD
import Derived.Test.YtppdfjdfjfoddaaDoorCopy
set_option linter.unusedSimpArgs false
set_option linter.unusedVariables false
set_option maxRecDepth 8000
set_option maxHeartbeats 4000000
namespace Go.Proofs.YtppdfjdfjfoddaaDoor
namespace Ev
def LS (l:Int):UInt8:=UInt8.ofNat (97 + l).toNat
theorem aLf {l:Int} (h0:0 ≤ l) (h:l ≤ 5):IntKind.u8.wrap (97 + l) = ((LS l).toNat:Int):=by
 rw [aRX (by omega) (by omega)]
 unfold LS
 rw [UInt8.toNat_ofNat']
 omega
theorem aB8 {L n:Nat} (hn:1 ≤ n) (l:Int) (h0:0 ≤ l) (h:l ≤ 5):aA env L n 102 [.d (.int .i64 l)] [] = some (.d (.int .u8 (LS l).toNat),[]):=by
 have e:IntKind.u8.wrap (97 + l) = ((LS l).toNat:Int):=aLf h0 h
 obtain _ | n:=n; omega
 rw [aBR]
 simp only [N3,Tryd.f102,SLM,simprocAttr]
 simp -implicitDefEqProofs (maxSteps:=2000000) (disch:=try exact Dz) only [↓DN,↓kAsg,↓kRet,UP,simprocAttr,↓aCl,e]
theorem y6 {R:Type} {L n:Nat} {hq:H} {k:A → H → Option R} (hn:1 ≤ n) (l:Int) (h0:0 ≤ l) (h:l ≤ 5):aL env (aA env L n) hq 102 [.d (.int .i64 l)] k = k (.d (.int .u8 (LS l).toNat)) hq :=
 aV rfl (aB8 hn l h0 h) rfl (.inl rfl)
theorem eF {R:Type} {call:a7} {h:H} {f:FuncId} {args:List A} {c:List UInt8} {p q:Int} {r:A} {k:A → H → Option R} (hm:(env.hint f).mode = 0) (ha:idsL args = []) (hr:idsA r = []) (he:call f (.ptr 0 0 0 :: args) [rdO c p] = some (r,[rdO c q])) :
  aL env call (rdO c p :: h) f (.ptr 0 0 0 :: args) k = k r (rdO c q :: h):=by
 have hid:idsL (A.ptr 0 0 0 :: args) = [0]:=by simp [idsL,idsA,ha]
 have hre:aF aG (rdO c p :: h) [0] [] = [0]:=rfl
 have hpk:pack (rdO c p :: h) [0] = [rdO c p]:=rfl
 have hma:aH (aK [0]) (A.ptr 0 0 0 :: args) = A.ptr 0 0 0 :: args:=by
  simp only [aH,mK _ ha]; rfl
 unfold aL
 rw [hid,hre,hpk,hma]
 have hc:dO call env.hint [rdO c p] f (.ptr 0 0 0 :: args) = some (r,[rdO c q]):=by
  unfold dO; rw [hm]; exact he
 rw [hc]
 have hcl:closed (rdO c p :: h) [0] [0] = true:=rfl
 simp only [List.length_cons,List.length_nil,Nat.le_refl,hcl,and_self,if_true,tU r hr]
 congr 1
 simp [bG,mapO,aH,mapA]
theorem aCd:(env.hint 48).mode = 0:=by kernel_rfl
theorem aJe {a b:Int} (ha:0 ≤ a) (ha2:a < 2 ^ 62) (hb:0 ≤ b) (hb2:b < 2 ^ 62):0 ≤ iXor .i64 a b ∧ iXor .i64 a b < 2 ^ 62:=by
 obtain ⟨m,rfl⟩:=Int.eq_ofNat_of_zero_le ha
 obtain ⟨n,rfl⟩:=Int.eq_ofNat_of_zero_le hb
 have hm:m < 2 ^ 62:=by omega
 have hn:n < 2 ^ 62:=by omega
 have hx:(BitVec.ofInt 64 (m:Int) ^^^ BitVec.ofInt 64 (n:Int)).toNat = m ^^^ n:=by
  rw [BitVec.toNat_xor]
  congr 1 <;> (simp only [BitVec.ofInt_natCast,BitVec.toNat_ofNat]; omega)
 have hlt:m ^^^ n < 2 ^ 62:=Nat.xor_lt_two_pow hm hn
 unfold iXor
 have:(BitVec.ofInt IntKind.i64.bits (m:Int) ^^^ BitVec.ofInt IntKind.i64.bits (n:Int)).toNat = m ^^^ n:=hx
 rw [this,HG (by omega) (by omega)]
 omega
theorem jI {c:List UInt8} (hc:c.length ≤ 2000) (p b:Int) (hp:0 ≤ p) (hp2:p ≤ 1000000000):∃ v:Int,0 ≤ v ∧ (1 ≤ b → v < b) ∧ (b < 1 → v = 0) ∧ (Dw 1 48 [.d (.int .i64 b)] (.d (.int .i64 v)) c p (p + 1)):=by
 by_cases h1:b < 1
 ·refine ⟨0,by omega,by omega,by omega,fun R L n hq k hn hL => eF aCd rfl rfl ?_⟩
  obtain _ | n:=n; omega
  rw [sP]
  simp only [qF,Tryd.f48,SLM,simprocAttr]
  simp -implicitDefEqProofs (maxSteps:=2000000) (disch:=try exact Dz) only [↓DN,↓kAsg,↓kRet,UP,simprocAttr,h1]
 ·by_cases h2:c.length = 0
  ·refine ⟨0,by omega,by omega,by omega,fun R L n hq k hn hL => eF aCd rfl rfl ?_⟩
   have h2':(c.length:Int) = 0:=by omega
   obtain _ | n:=n; omega
   rw [sP]
   simp only [qF,Tryd.f48,SLM,simprocAttr]
   simp -implicitDefEqProofs (maxSteps:=2000000) (disch:=try exact Dz) only [↓DN,↓kAsg,↓kRet,UP,simprocAttr,h1,h2']
  ·have h2':¬ (c.length:Int) = 0:=by omega
   by_cases h3:p < c.length
   ·have hb:b ≠ 0:=by omega
    have t0:0 ≤ ((c.getD p.toNat 0).toNat:Int).tmod b:=Int.tmod_nonneg b (by omega)
    have t1:((c.getD p.toNat 0).toNat:Int).tmod b < b:=Int.tmod_lt_of_pos _ (by omega)
    refine ⟨((c.getD p.toNat 0).toNat:Int).tmod b,t0,fun _ => t1,by omega,fun R L n hq k hn hL => eF aCd rfl rfl ?_⟩
    have e1:p + 1 - 1 = p:=by omega
    obtain _ | n:=n; omega
    rw [sP]
    simp only [qF,Tryd.f48,SLM,simprocAttr]
    simp -implicitDefEqProofs (maxSteps:=2000000) (disch:=try exact Dz) only [↓DN,↓kAsg,↓kRet,UP,simprocAttr,h1,h2',e1,h3]
   ·have e1:p + 1 - 1 = p:=by omega
    have hl1:(0:Int) < c.length:=by omega
    have q1:0 ≤ p.tmod c.length:=Int.tmod_nonneg _ hp
    have q2:p.tmod c.length < c.length:=Int.tmod_lt_of_pos _ hl1
    have q3:0 ≤ (p * 7 + 3).tmod c.length:=Int.tmod_nonneg _ (by omega)
    have q4:(p * 7 + 3).tmod c.length < c.length:=Int.tmod_lt_of_pos _ hl1
    have q5:0 ≤ p.tdiv c.length:=Int.tdiv_nonneg hp (by omega)
    have q6:p.tdiv c.length ≤ p:=Int.tdiv_le_self _ hp
    have b1:=toNat_lt (c.getD (p.tmod c.length).toNat 0)
    have b2:=toNat_lt (c.getD ((p * 7 + 3).tmod c.length).toNat 0)
    have r1:(p.tmod c.length).toNat < c.length:=by omega
    have r2:((p * 7 + 3).tmod c.length).toNat < c.length:=by omega
    obtain ⟨x,hx⟩:∃ x:Int,x = ((c.getD (p.tmod c.length).toNat 0).toNat:Int) * 131 + ((c.getD ((p * 7 + 3).tmod c.length).toNat 0).toNat:Int) * 1117 + p * 29 + p.tdiv c.length * 53:=⟨_,rfl⟩
    have x0:0 ≤ x:=by omega
    have x1:x < 2 ^ 62:=by omega
    have y0:0 ≤ x.tdiv 64:=Int.tdiv_nonneg x0 (by omega)
    have y1:x.tdiv 64 < 2 ^ 62:=by have:=Int.tdiv_le_self 64 x0; omega
    have z:=aJe x0 x1 y0 y1
    have hb:b ≠ 0:=by omega
    have t0:0 ≤ (iXor .i64 x (x.tdiv 64)).tmod b:=Int.tmod_nonneg b z.1
    have t1:(iXor .i64 x (x.tdiv 64)).tmod b < b:=Int.tmod_lt_of_pos _ (by omega)
    refine ⟨(iXor .i64 x (x.tdiv 64)).tmod b,t0,fun _ => t1,by omega,fun R L n hq k hn hL => eF aCd rfl rfl ?_⟩
    clear b1 b2 z t0 t1
    have b1:=toNat_lt (c.getD (p.tmod c.length).toNat 0)
    have b2:=toNat_lt (c.getD ((p * 7 + 3).tmod c.length).toNat 0)
    subst hx
    obtain _ | n:=n; omega
    rw [sP]
    simp only [qF,Tryd.f48,SLM,simprocAttr]
    simp -implicitDefEqProofs (maxSteps:=2000000) (disch:=try exact Dz) only [↓DN,↓kAsg,↓kRet,UP,simprocAttr,h1,h2',e1,h3]
theorem aRR:(env.hint 61).mode = 0:=by kernel_rfl
theorem m_of:(env.hint 68).mode = 0:=by kernel_rfl
theorem PW:(env.hint 32).mode = 0:=by kernel_rfl
theorem aJ3 {R:Type} {call:a7} {hq:H} {f:FuncId} {c:List UInt8} {p q:Int} {r:A} {k:A → H → Option R} {cs:List D} {e g n id:Nat} (hi:hq[id]? = some (.arr cs e g)) (hm:(env.hint f).mode = 0) (hr:idsA r = []) (he:call f [.ptr 0 0 0,.sl 1 g 0 n] [rdO c p,.arr cs e g] = some (r,[rdO c q,.arr cs e g])) :
  aL env call (rdO c p :: hq) f [.ptr 0 0 0,.sl (id + 1) g 0 n] k = k r (rdO c q :: hq):=by
 have hlk:(rdO c p :: hq)[id + 1]? = some (.arr cs e g):=by rw [List.getElem?_cons_succ]; exact hi
 have hre:aF aG (rdO c p :: hq) [0,id + 1] [] = [0,id + 1]:=by
  have e1:aF aG (rdO c p :: hq) [0,id + 1] [] = aF (aG - 1) (rdO c p :: hq) [id + 1] [0]:=rfl
  have e2:aF (aG - 1) (rdO c p :: hq) [id + 1] [0] = if [0].contains (id + 1) = true then aF (aG - 2) (rdO c p :: hq) [] [0] else match (rdO c p :: hq)[id + 1]? with
   | some (.box cs) => aF (aG - 2) (rdO c p :: hq) ([] ++ idsL cs) ([0] ++ [id + 1])
   | some (.vec cs _ _) => aF (aG - 2) (rdO c p :: hq) ([] ++ idsL cs) ([0] ++ [id + 1])
   | some .void => aF (aG - 2) (rdO c p :: hq) [] [0]
   | some _ => aF (aG - 2) (rdO c p :: hq) [] ([0] ++ [id + 1])
   | none => aF (aG - 2) (rdO c p :: hq) [] [0]:=rfl
  have e3:[0].contains (id + 1) = false:=by simp
  rw [e1,e2,e3,hlk]
  rfl
 have hpk:pack (rdO c p :: hq) [0,id + 1] = [rdO c p,.arr cs e g]:=by
  simp only [pack,List.map_cons,List.map_nil,List.getD_eq_getElem?_getD,hlk]
  rfl
 unfold aL
 have hid:idsL [A.ptr 0 0 0,A.sl (id + 1) g 0 n] = [0,id + 1]:=rfl
 rw [hid,hre,hpk]
 have hma:aH (aK [0,id + 1]) [A.ptr 0 0 0,A.sl (id + 1) g 0 n] = [A.ptr 0 0 0,A.sl 1 g 0 n]:=by
  simp [aH,mapA,aK]
 rw [hma]
 have hc:dO call env.hint [rdO c p,.arr cs e g] f [.ptr 0 0 0,.sl 1 g 0 n] = some (r,[rdO c q,.arr cs e g]):=by
  unfold dO; rw [hm]; exact he
 rw [hc]
 have hcl:closed (rdO c p :: hq) [0,id + 1] [0,id + 1] = true:=by
  simp only [closed,List.all_cons,List.all_nil,hlk,List.getElem?_cons_zero]
  simp [idsL,idsA]
 simp only [List.length_cons,List.length_nil,Nat.le_refl,hcl,and_self,if_true,tU r hr]
 congr 1
 simp only [bG,mapO,aH,mapA,List.map_nil,List.append_nil,List.set_cons_zero,List.set_cons_succ]
 congr 1
 exact aQU hi
theorem aGr {α:Type} {l:List α} {k:Nat} {d:α} (h:k < l.length):l.getD k d ∈ l:=by
 rw [List.getD_eq_getElem?_getD,List.getElem?_eq_getElem h]; exact List.getElem_mem h
theorem aRp {c:List UInt8} (hc:c.length ≤ 2000) (l:List Int) (g:Nat) (hl:0 < l.length) (hl2:l.length < 1000) (p:Int) (hp:0 ≤ p) (hp2:p ≤ 1000000000):∃ v:Int,v ∈ l ∧ ∀ (L n:Nat),2 ≤ n → 2 ^ 60 ≤ L → aA env L n 61 [.ptr 0 0 0,.sl 1 g 0 l.length] [rdO c p,.arr (ints l) 1 g] = some (.d (.int .i64 v),[rdO c (p + 1),.arr (ints l) 1 g]):=by
 obtain ⟨v,v0,v1,_,kd⟩:=jI hc p l.length hp hp2
 have v1:=v1 (by omega)
 have hk:v.toNat < l.length:=by omega
 refine ⟨l.getD v.toNat 0,aGr hk,fun L n hn hL => ?_⟩
 obtain _ | n:=n; omega
 rw [aCq]
 simp only [Q1,Tryd.f61,SLM,simprocAttr]
 simp -implicitDefEqProofs (maxSteps:=2000000) (disch:=try exact Dz) only [↓DN,↓kAsg,↓kRet,UP,simprocAttr,↓kd]
theorem wD {c:List UInt8} (hc:c.length ≤ 2000) (l:List Int) (hl:0 < l.length) (hl2:l.length < 1000) (p:Int) (hp:0 ≤ p) (hp2:p ≤ 1000000000):∃ v:Int,v ∈ l ∧ (∀ (R:Type) (L n id:Nat) (hq:H) (k:A → H → Option R),2 ≤ n → 2 ^ 60 ≤ L → hq[id]? = some (.arr (ints l) 1 0) → aL env (aA env L n) (rdO c p :: hq) 61 [.ptr 0 0 0,.sl (id + 1) 0 0 l.length] k = k (.d (.int .i64 v)) (rdO c (p + 1) :: hq)):=by
 obtain ⟨v,hv,he⟩:=aRp hc l 0 hl hl2 p hp hp2
 exact ⟨v,hv,fun R L n id hq k hn hL hi => aJ3 hi aRR rfl (he L n hn hL)⟩
def P7 (l:List (List UInt8)):List D:=l.map .str
theorem aG5 {l:List (List UInt8)}:(P7 l).length = l.length:=by simp [P7]
theorem aJC {l:List (List UInt8)} {k:Nat} (h:k < l.length):(((P7 l).drop k).map A.d).head? = some (.d (.str (l.getD k []))):=by
 rw [List.head?_map,List.head?_drop,P7,List.getElem?_map,List.getD_eq_getElem?_getD,List.getElem?_eq_getElem h]
 rfl
theorem aRv {c:List UInt8} (hc:c.length ≤ 2000) (l:List (List UInt8)) (hl:0 < l.length) (hl2:l.length < 1000) (p:Int) (hp:0 ≤ p) (hp2:p ≤ 1000000000):∃ v:List UInt8,v ∈ l ∧ (Dw 2 68 [.d (.ivs l.length (P7 l))] (.d (.str v)) c p (p + 1)):=by
 obtain ⟨v,v0,v1,_,kd⟩:=jI hc p l.length hp hp2
 have v1:=v1 (by omega)
 have hk:v.toNat < l.length:=by omega
 refine ⟨l.getD v.toNat [],aGr hk,fun R L n hq k hn hL => eF m_of rfl rfl ?_⟩
 obtain _ | n:=n; omega
 rw [aFa]
 simp only [SG,Tryd.f68,SLM,simprocAttr]
 simp -implicitDefEqProofs (maxSteps:=2000000) (disch:=try exact Dz) only [↓DN,↓kAsg,↓kRet,UP,simprocAttr,↓kd,aG5,aJC]
theorem Y9 {R:Type} {L n:Nat} (hn:1 ≤ n) {a:Int} {k:Exit → List A → H → Option R}:∀ (i:Int) (m:Nat) (l:List Int) (len:Nat) (h0:0 ≤ i) (hi:i ≤ 6) (hm:6 - i < m) (hl:len = l.length) (hlen:(l.length:Int) ≤ i),
  aU env (aA env L n) L 0 [] (U1 (Z1 (U2 (U1 (Z8 (Z4 (Z1 ([])))))))) (pS 0) (Z1 (U1 (Z2 (Z1 (U8 (U4 (U1 ([])))))))) m (.d (.int .i64 a) :: Y1 (.d .nils :: .sl 0 0 0 len :: .d (.int .i64 i) :: Y8 (Y4 (Y1 ([]))))) [.arr (ints l) 1 0] k
  = k (.exit 0) (.d (.int .i64 a) :: Y1 (.d .nils :: .sl 0 0 0 (len + ((oE (6 - i).toNat).filter (d9 a)).length) :: .d (.int .i64 6) :: Y8 (Y4 (Y1 ([]))))) [.arr (ints (l ++ (oE (6 - i).toNat).filter (d9 a))) 1 0]:=by
 intro i m l len h0 hi hm hl hlen
 obtain ⟨j,hj⟩:∃ j:Nat,(j:Int) = (6:Int) - i:=⟨((6:Int) - i).toNat,by omega⟩
 induction j generalizing i m l len with
 | zero =>
  obtain _ | m:=m; omega
  obtain rfl:i = 6:=by omega
  rw [tS]
  simp only [sQ,Tryd.f40,SLM,simprocAttr]
  simp -implicitDefEqProofs (maxSteps:=2000000) (disch:=try exact Dz) only [↓DN,↓kAsg,↓kRet,UP,simprocAttr,↓gB]
  simp only [oE,List.filter_nil,List.append_nil,List.length_nil,Nat.add_zero]
 | succ j ih =>
  obtain _ | m:=m; omega
  have hc:i < 6:=by omega
  have e1:(6 - i).toNat = j + 1:=by omega
  have e2:(6 - (i + 1)).toNat = j:=by omega
  have hr:oE (j + 1) = i :: oE j:=by simp only [oE]; congr 1; omega
  rw [e1,hr,List.filter_cons]
  cases hb:d9 a i with
  | true =>
   rw [tS]
   simp only [sQ,Tryd.f40,SLM,simprocAttr]
   simp -implicitDefEqProofs (maxSteps:=2000000) (disch:=try exact Dz) only [↓DN,↓kAsg,↓kRet,UP,simprocAttr,↓gB,↓ih,hc,hb,e2]
   simp only [List.append_assoc,List.cons_append,List.nil_append,Nat.add_assoc,Nat.add_comm 1]
  | false =>
   rw [tS]
   simp only [sQ,Tryd.f40,SLM,simprocAttr]
   simp -implicitDefEqProofs (maxSteps:=2000000) (disch:=try exact Dz) only [↓DN,↓kAsg,↓kRet,UP,simprocAttr,↓gB,↓ih,hc,hb,e2]
theorem aRA:oE (6 - (0:Int)).toNat = [0,1,2,3,4,5]:=rfl
theorem aCG {L n:Nat} (hn:2 ≤ n) (a:Int) (hL:2 ^ 60 ≤ L):aA env L n 40 [.d (.int .i64 a)] [] = some (.d (.ivs (aE a).length (ints (aE a))),[]):=by
 unfold aE
 rw [← aRA]
 obtain _ | n:=n; omega
 rw [aCL]
 simp only [RK,Tryd.f40,SLM,simprocAttr]
 simp -implicitDefEqProofs (maxSteps:=2000000) (disch:=try exact Dz) only [↓DN,↓kAsg,↓kRet,UP,simprocAttr,↓gB,aOs,↓Y9]
theorem bK {R:Type} {L n:Nat} {hq:H} {k:A → H → Option R} (hn:2 ≤ n) (a:Int) (hL:2 ^ 60 ≤ L):aL env (aA env L n) hq 40 [.d (.int .i64 a)] k = k (.d (.ivs (aE a).length (ints (aE a)))) hq :=
 aV rfl (aCG hn a hL) rfl (.inr rfl)

theorem S1 {c:List UInt8} (hc:c.length ≤ 2000) {al st i9:Int} {w:Nat} (hw:w ≤ 6) {d:List (List Int)} (hdl:d.length ≤ 4294967296) {cs:List D} {z:Nat}:∀ (j i:Nat) (p:Int) (o:List Int) (hi:i + j = w) (ho:o.length = i) (hp:0 ≤ p) (hp2:p + j ≤ 1000000000),
  ∃ (r:List Int) (q:Int),r.length = w ∧ q = p + j ∧ ∀ (R:Type) (L n m:Nat) (k:Exit → List A → H → Option R),2 ≤ n → 2 ^ 60 ≤ L → j < m →
  aU env (aA env L n) L 1 [0,0,0,0,0,0,0,0,0,0,0,0,0,0,0,0,0,0,0,0,0,0,0,0,0,0,0,0,0,0,0,0,0,0,0,0,0,1002] (U1 (Z1 (U1 (Z2 (Z1 (U4 (U2 (Z32 (Z4 (Z1 ([]))))))))))) (hU 1) (Z1 (U1 (Z1 (U2 (U1 (Z4 (Z2 (U32 (U4 (U1 ([]))))))))))) m (.ptr 0 0 0 :: Y1 (.d (.int .i64 st) :: Y2 (Y1 (.ptr 1 0 0 :: .ptr 2 0 0 :: .d (.int .i64 w) :: .d (.int .i64 i9) :: .sl 3 0 0 i :: .d (.int .i64 ((i:Int))) :: Y32 (Y4 (Y1 ([]))))))) (rdO c p :: .box [.d (.int .i64 0),.sl 4 0 0 0,.sl 5 0 0 0] :: .box [.d (.int .i64 al),.sl 6 0 0 d.length,.sl 7 0 0 z] :: .arr (ints o) 1 0 :: .arr [] 0 0 :: .arr [] 0 0 :: .vec (aD 8 d ++ aI 0) 1 0 :: .arr cs 1 0 :: aJ d) k
  = k (.exit 2) (.ptr 0 0 0 :: Y1 (.d (.int .i64 st) :: Y2 (Y1 (.ptr 1 0 0 :: .ptr 2 0 0 :: .d (.int .i64 w) :: .d (.int .i64 i9) :: .sl 3 0 0 w :: .d (.int .i64 ((w:Int))) :: Y32 (Y4 (Y1 ([]))))))) (rdO c q :: .box [.d (.int .i64 0),.sl 4 0 0 0,.sl 5 0 0 0] :: .box [.d (.int .i64 al),.sl 6 0 0 d.length,.sl 7 0 0 z] :: .arr (ints r) 1 0 :: .arr [] 0 0 :: .arr [] 0 0 :: .vec (aD 8 d ++ aI 0) 1 0 :: .arr cs 1 0 :: aJ d):=by
 intro j
 induction j with
 | zero =>
  intro i p o hi ho hp hp2
  obtain rfl:i = w:=by omega
  refine ⟨o,p,ho,by omega,fun R L n m k hn hL hm => ?_⟩
  obtain _ | m:=m; omega
  subst ho
  rw [pL]
  simp only [p9,Tryd.f91,SLM,simprocAttr]
  simp -implicitDefEqProofs (maxSteps:=2000000) (disch:=try exact Dz) only [↓DN,↓kAsg,↓kRet,UP,simprocAttr,↓bK,LA,Int.lt_irrefl,dK,rY,zI,vS,↓aH5,↓aFV]
 | succ j ih =>
  intro i p o hi ho hp hp2
  obtain ⟨v,v0,v1,v2,kd⟩:=jI hc p st hp (by omega)
  obtain ⟨r,q,g1,g2,kd2⟩:=ih (i + 1) (p + 1) (o ++ [v]) (by omega) (by simp; omega) (by omega) (by omega)
  refine ⟨r,q,g1,by omega,fun R L n m k hn hL hm => ?_⟩
  obtain _ | m:=m; omega
  have kd2':=kd2 R L n m k hn hL (by omega)
  rw [show ((i + 1:Nat):Int) = (i:Int) + 1 by omega] at kd2'
  have hc1:(i:Int) < w:=by omega
  subst ho
  clear ih kd2
  rw [pL]
  simp only [p9,Tryd.f91,SLM,simprocAttr]
  simp -implicitDefEqProofs (maxSteps:=2000000) (disch:=try exact Dz) only [↓DN,↓kAsg,↓kRet,UP,simprocAttr,↓bK,LA,hc1,↓kd,cY,gZ,List.length_append,↓kd2',dK,rY,zI,vS,↓aH5,↓aFV]
theorem R1 {c:List UInt8} (hc:c.length ≤ 2000) {al st i9:Int} {w:Nat} (hw:w ≤ 6) {cs:List D} {z:Nat}:∀ (j i:Nat) (p:Int) (o:List Int) (hi:i + j = w) (ho:o.length = i) (hp:0 ≤ p) (hp2:p + j ≤ 1000000000),
  ∃ (r:List Int) (q:Int),r.length = w ∧ q = p + j ∧ ∀ (R:Type) (L n m:Nat) (k:Exit → List A → H → Option R),2 ≤ n → 2 ^ 60 ≤ L → j < m →
  aU env (aA env L n) L 1 [0,0,0,0,0,0,0,0,0,0,0,0,0,0,0,0,0,0,0,0,0,0,0,0,0,0,0,0,0,0,0,0,0,0,0,0,0,1002] (U1 (Z1 (U1 (Z2 (Z1 (U4 (U2 (Z32 (Z4 (Z1 ([]))))))))))) (hU 1) (Z1 (U1 (Z1 (U2 (U1 (Z4 (Z2 (U32 (U4 (U1 ([]))))))))))) m (.ptr 0 0 0 :: Y1 (.d (.int .i64 st) :: Y2 (Y1 (.ptr 1 0 0 :: .ptr 2 0 0 :: .d (.int .i64 w) :: .d (.int .i64 i9) :: .sl 3 0 0 i :: .d (.int .i64 ((i:Int))) :: Y32 (Y4 (Y1 ([]))))))) (rdO c p :: .box [.d (.int .i64 0),.sl 4 0 0 0,.sl 5 0 0 0] :: .box [.d (.int .i64 al),.sl 6 0 0 0,.sl 7 0 0 z] :: .arr (ints o) 1 0 :: .arr [] 0 0 :: .arr [] 0 0 :: .arr [] 0 0 :: .arr cs 0 0 :: []) k
  = k (.exit 2) (.ptr 0 0 0 :: Y1 (.d (.int .i64 st) :: Y2 (Y1 (.ptr 1 0 0 :: .ptr 2 0 0 :: .d (.int .i64 w) :: .d (.int .i64 i9) :: .sl 3 0 0 w :: .d (.int .i64 ((w:Int))) :: Y32 (Y4 (Y1 ([]))))))) (rdO c q :: .box [.d (.int .i64 0),.sl 4 0 0 0,.sl 5 0 0 0] :: .box [.d (.int .i64 al),.sl 6 0 0 0,.sl 7 0 0 z] :: .arr (ints r) 1 0 :: .arr [] 0 0 :: .arr [] 0 0 :: .arr [] 0 0 :: .arr cs 0 0 :: []):=by
 intro j
 induction j with
 | zero =>
  intro i p o hi ho hp hp2
  obtain rfl:i = w:=by omega
  refine ⟨o,p,ho,by omega,fun R L n m k hn hL hm => ?_⟩
  obtain _ | m:=m; omega
  subst ho
  rw [pL]
  simp only [p9,Tryd.f91,SLM,simprocAttr]
  simp -implicitDefEqProofs (maxSteps:=2000000) (disch:=try exact Dz) only [↓DN,↓kAsg,↓kRet,UP,simprocAttr,↓bK,LA,Int.lt_irrefl]
 | succ j ih =>
  intro i p o hi ho hp hp2
  obtain ⟨v,v0,v1,v2,kd⟩:=jI hc p st hp (by omega)
  obtain ⟨r,q,g1,g2,kd2⟩:=ih (i + 1) (p + 1) (o ++ [v]) (by omega) (by simp; omega) (by omega) (by omega)
  refine ⟨r,q,g1,by omega,fun R L n m k hn hL hm => ?_⟩
  obtain _ | m:=m; omega
  have kd2':=kd2 R L n m k hn hL (by omega)
  rw [show ((i + 1:Nat):Int) = (i:Int) + 1 by omega] at kd2'
  have hc1:(i:Int) < w:=by omega
  subst ho
  clear ih kd2
  rw [pL]
  simp only [p9,Tryd.f91,SLM,simprocAttr]
  simp -implicitDefEqProofs (maxSteps:=2000000) (disch:=try exact Dz) only [↓DN,↓kAsg,↓kRet,UP,simprocAttr,↓bK,LA,hc1,↓kd,cY,gZ,List.length_append,↓kd2']
theorem aQS {m:List Bool} {s:List A} {y1 y2 x0 x1:D} {k z rl:Nat} {r:List Int} {cs:List D} {d:List (List Int)} {p:H} (hr:rl = r.length) (hl:d.length ≤ 4294967296):gc 1 m s (.box [.d y1,.d y2] :: .box [.d x0,.sl 4 0 0 0,.sl 5 0 0 0] :: .box [.d x1,.sl 6 1 0 k,.sl 7 1 0 z] :: .arr (ints r) 1 0 :: .arr [] 0 0 :: .arr [] 0 0 :: .vec (aD 8 d ++ [.sl 3 0 0 rl]) 1 1 :: .arr cs 1 1 :: (aJ d ++ p)) = match box (tidy m s) with
  | .mk s1 => if idsL s1 = [0,1,2] then (s1,.box [.d y1,.d y2] :: .box [.d x0,.sl 3 0 0 0,.sl 4 0 0 0] :: .box [.d x1,.sl 5 0 0 k,.sl 6 0 0 z] :: .arr [] 0 0 :: .arr [] 0 0 :: .vec (aD 7 (d ++ [r]) ++ aI 0) 1 0 :: .arr cs 1 0 :: aJ (d ++ [r])) else gcO 1 m s (.box [.d y1,.d y2] :: .box [.d x0,.sl 4 0 0 0,.sl 5 0 0 0] :: .box [.d x1,.sl 6 1 0 k,.sl 7 1 0 z] :: .arr (ints r) 1 0 :: .arr [] 0 0 :: .arr [] 0 0 :: .vec (aD 8 d ++ [.sl 3 0 0 rl]) 1 1 :: .arr cs 1 1 :: (aJ d ++ p))
  | .no => ([],[]):=by
 have hn:aI 0 = []:=rfl
 subst hr
 rw [aQi hl,← M4,GD,hn,List.append_nil,Nat.add_comm 7]
 simp only [box]
 split
 ·rename_i hid
  rw [qX _ (by rw [hid]; intro i hi; simp at hi; rcases hi with rfl | rfl | rfl <;> rfl)]
 ·rfl
theorem DC {l:List Bool} {b:Bool}:aB l ++ [.bool b] = aB (l ++ [b]):=by simp [aB]
theorem TU {c:List UInt8} (hc:c.length ≤ 2000) {al st:Int} {w s:Nat} (hw:w ≤ 6) (hst:st = s) (hs:s ≤ 100):∀ (j i:Nat) (p:Int) (d:List (List Int)) (bl:List Bool) (hi:i + j = s) (hd:d.length = i) (hbl:bl.length = i) (hrw:∀ r ∈ d,r.length = w) (hp:0 ≤ p) (hp2:p + 7 * j ≤ 1000000000),
  ∃ (d2:List (List Int)) (bl2:List Bool) (q:Int),d2.length = s ∧ bl2.length = s ∧ (∀ r ∈ d2,r.length = w) ∧ p ≤ q ∧ q ≤ p + 7 * j ∧ ∀ (R:Type) (L n m:Nat) (k:Exit → List A → H → Option R),2 ≤ n → 2 ^ 60 ≤ L → j < m →
  aU env (aA env L n) L 1 [0,0,0,0,0,0,0,0,0,0,0,0,0,0,0,0,0,0,0,0,0,0,0,0,0,0,0,0,0,0,0,0,0,0,0,0,0,1002] (U1 (Z1 (U1 (Z2 (Z1 (U4 (U2 (Z32 (Z4 (Z1 ([]))))))))))) (hU 0) (Z1 (U1 (Z1 (U2 (U1 (Z4 (U32 (U4 (U2 (U1 ([]))))))))))) m (.ptr 0 0 0 :: Y1 (.d (.int .i64 st) :: Y2 (Y1 (.ptr 1 0 0 :: .ptr 2 0 0 :: .d (.int .i64 w) :: .d (.int .i64 ((i:Int))) :: Y32 (Y4 (Y2 (Y1 ([])))))))) (rdO c p :: .box [.d (.int .i64 0),.sl 3 0 0 0,.sl 4 0 0 0] :: .box [.d (.int .i64 al),.sl 5 0 0 (List.length d),.sl 6 0 0 (List.length bl)] :: .arr [] 0 0 :: .arr [] 0 0 :: .vec (aD 7 d ++ aI 0) 1 0 :: .arr (aB bl) 1 0 :: aJ d) k
  = k (.exit 0) (.ptr 0 0 0 :: Y1 (.d (.int .i64 st) :: Y2 (Y1 (.ptr 1 0 0 :: .ptr 2 0 0 :: .d (.int .i64 w) :: .d (.int .i64 ((s:Int))) :: Y32 (Y4 (Y2 (Y1 ([])))))))) (rdO c q :: .box [.d (.int .i64 0),.sl 3 0 0 0,.sl 4 0 0 0] :: .box [.d (.int .i64 al),.sl 5 0 0 (List.length d2),.sl 6 0 0 (List.length bl2)] :: .arr [] 0 0 :: .arr [] 0 0 :: .vec (aD 7 d2 ++ aI 0) 1 0 :: .arr (aB bl2) 1 0 :: aJ d2):=by
 intro j
 induction j with
 | zero =>
  intro i p d bl hi hd hbl hrw hp hp2
  obtain rfl:i = s:=by omega
  refine ⟨d,bl,p,hd,hbl,hrw,by omega,by omega,fun R L n m k hn hL hm => ?_⟩
  obtain _ | m:=m; omega
  have hdl:d.length ≤ 4294967296:=by omega
  subst hst
  rw [vE]
  simp only [uG,Tryd.f91,SLM,simprocAttr]
  simp -implicitDefEqProofs (maxSteps:=2000000) (disch:=try exact Dz) only [↓DN,↓kAsg,↓kRet,UP,simprocAttr,↓bK,LA,Int.lt_irrefl,↓aQ4]
 | succ j ih =>
  intro i p d bl hi hd hbl hrw hp hp2
  have hdl:d.length ≤ 4294967296:=by omega
  obtain ⟨r,q,g1,g2,kd1⟩:=S1 hc (al:=al) (st:=st) (i9:=i) hw hdl (cs:=aB bl) (z:=bl.length) w 0 p [] (by omega) rfl hp (by omega)
  obtain ⟨v,v0,v1,v2,kd2⟩:=jI hc q 3 (by omega) (by omega)
  obtain ⟨d2,bl2,q2,e1,e2,e3,e4,e5,kd3⟩:=ih (i + 1) (q + 1) (d ++ [r]) (bl ++ [decide (0 < v)]) (by omega) (by simp; omega) (by simp; omega) (by
   intro x hx
   rcases List.mem_append.1 hx with hx | hx
   ·exact hrw x hx
   ·simp at hx; subst hx; exact g1) (by omega) (by omega)
  refine ⟨d2,bl2,q2,e1,e2,e3,by omega,by omega,fun R L n m k hn hL hm => ?_⟩
  obtain _ | m:=m; omega
  have kd3':=kd3 R L n m k hn hL (by omega)
  have loop_c:=fun {R:Type} {n:Nat} {k:Exit → List A → H → Option R} (hn:2 ≤ n) => kd1 R L n L k hn hL (by omega)
  rw [show ((i + 1:Nat):Int) = (i:Int) + 1 by omega] at kd3'
  simp only [Int.natCast_zero,qS,List.length_append,List.length_cons,List.length_nil,Nat.zero_add] at loop_c kd3'
  have hc1:(i:Int) < st:=by omega
  have g1':w = r.length:=g1.symm
  have ht:(aD 8 d ++ aI 0).take d.length = aD 8 d:=PV rfl
  have hlv:d.length ≤ (aD 8 d ++ aI 0).length:=by rw [List.length_append,mO]; omega
  obtain ⟨G2,hG2⟩:∃ G:H,G = (rdO c (q + 1) :: .box [.d (.int .i64 0),.sl 4 0 0 0,.sl 5 0 0 0] :: .box [.d (.int .i64 al),.sl 6 1 0 (d.length + 1),.sl 7 0 0 bl.length] :: .arr (ints r) 1 0 :: .arr [] 0 0 :: .arr [] 0 0 :: .vec (aD 8 d ++ [.sl 3 0 0 w]) 1 1 :: .arr (aB (bl ++ [decide (0 < v)])) 1 1 :: (aJ d ++ .vec [.sl 3 0 0 w] 1 0 :: .arr [.bool (decide (0 < v))] 1 0 :: [])):=⟨_,rfl⟩
  have k2:G2[2]? = some (.box [.d (.int .i64 al),.sl 6 1 0 (d.length + 1),.sl 7 0 0 bl.length]):=by rw [hG2]; rfl
  have k3:G2[3]? = some (.arr (ints r) 1 0):=by rw [hG2]; rfl
  have k6:G2[6]? = some (.vec (aD 8 d ++ [.sl 3 0 0 w]) 1 1):=by rw [hG2]; rfl
  have k7:G2[7]? = some (.arr (aB (bl ++ [decide (0 < v)])) 1 1):=by rw [hG2]; rfl
  have ok3:Okay G2 3:=.mk _ _ k3 (by simp) (by rw [bX k3]; simp)
  have ok7:Okay G2 7:=.mk _ _ k7 (by simp) (by rw [bX k7]; simp)
  have ok6:Okay G2 6:=.mk _ _ k6 (by simp) (by
   intro y hy
   have:kids G2 6 = List.range' 8 d.length ++ [3]:=by simp [kids,k6,bY,dE,idsL,idsA]
   rw [this,List.mem_append,List.mem_range'_1] at hy
   rcases hy with hy | hy
   ·obtain ⟨z,rfl⟩:∃ z,y = 8 + z:=⟨y - 8,by omega⟩
    have hz:z < d.length:=by omega
    have hr:G2[8 + z]? = some (.arr (ints d[z]) 1 0):=by
     rw [hG2,show 8 + z = z + 1 + 1 + 1 + 1 + 1 + 1 + 1 + 1 by omega]
     simp only [List.getElem?_cons_succ]
     exact G8 (List.getElem?_eq_getElem hz)
    exact .mk _ _ hr (by simp) (by rw [bX hr]; simp)
   ·simp at hy
    subst hy
    exact ok3)
  have ok2:Okay G2 2:=.mk _ _ k2 (by simp) (by
   intro y hy
   have:kids G2 2 = [6,7]:=by simp [kids,k2,idsL,idsA]
   rw [this] at hy
   simp at hy
   rcases hy with rfl | rfl
   ·exact ok6
   ·exact ok7)
  have wG2:2 + wgt G2 ≤ 1099511627776:=by
   have h1:=r9 (aJ d) [.vec [.sl 3 0 0 w] 1 0,.arr [.bool (decide (0 < v))] 1 0]
   rw [HW] at h1
   rw [hG2]
   simp only [wgt,idsL,idsA,bY,dE,List.length_append,List.length_range',List.length_cons,List.length_nil] at h1 ⊢
   omega
  have st_sto:∀ {call:a7} {thaw:List Nat} {dst:Option Tmp} {x y:Operand},memD env call thaw dst (.store 24 x y) G2 [.ptr 2 0 2,.sl 7 1 0 (bl.length + 1)] = some (.d .undef,G2.set 2 (.box (bS [.d (.int .i64 al),.sl 6 1 0 (d.length + 1),.sl 7 0 0 bl.length] 2 [.sl 7 1 0 (bl.length + 1)])),{ ids:=aF aG G2 [2,7] [],ro:=false,wr:=aF aG G2 [2,7] [] }):=by
   intro call thaw dst x y
   exact MV (by kernel_rfl) (by kernel_rfl) k2 (by simp) ok2 ok7 wG2
  obtain ⟨o2,ho2⟩:∃ o,o = aF aG G2 [2,7] []:=⟨_,rfl⟩
  rw [← ho2] at st_sto
  rw [hG2] at st_sto
  simp only [List.set_cons_succ,List.set_cons_zero,bS,List.take_succ_cons,List.take_zero,List.cons_append,List.nil_append,List.length_cons,List.length_nil,List.drop_succ_cons,List.drop_zero,List.drop_nil,Nat.reduceAdd] at st_sto
  clear hG2 k2 k3 k6 k7 ok2 ok3 ok6 ok7 wG2 ho2 ih kd1 kd3
  subst hd
  generalize hbv:decide (0 < v) = b at *
  rw [vE]
  simp only [uG,Tryd.f91,SLM,simprocAttr]
  simp -implicitDefEqProofs (maxSteps:=2000000) (disch:=try exact Dz) only [↓DN,↓kAsg,↓kRet,UP,simprocAttr,↓bK,LA,hc1,hbv,↓loop_c,↓kd2,dK,mO,aEb,Nat.add_zero,Nat.le_refl,rY,AB,zI,QM,vS,aFL,Nat.sub_self,List.range'_zero,ht,dZ,eN,yH,vX,d7,iU,DC,List.append_assoc,List.cons_append,List.nil_append,↓aQW,aGm,UY,UI,TC,QU,↓st_sto,↓aQS,↓kd3']
theorem O1 {c:List UInt8} (hc:c.length ≤ 2000) {al st:Int} {w s:Nat} (hw:w ≤ 6) (hst:st = s) (hs:s ≤ 100) (h1:1 ≤ s) (p:Int) (hp:0 ≤ p) (hp2:p + 7 * s ≤ 1000000000) :
  ∃ (d2:List (List Int)) (bl2:List Bool) (q:Int),d2.length = s ∧ bl2.length = s ∧ (∀ r ∈ d2,r.length = w) ∧ p ≤ q ∧ q ≤ p + 7 * s ∧ ∀ (R:Type) (L n m:Nat) (k:Exit → List A → H → Option R),2 ≤ n → 2 ^ 60 ≤ L → s < m →
  aU env (aA env L n) L 1 [0,0,0,0,0,0,0,0,0,0,0,0,0,0,0,0,0,0,0,0,0,0,0,0,0,0,0,0,0,0,0,0,0,0,0,0,0,1002] (U1 (Z1 (U1 (Z2 (Z1 (U4 (U2 (Z32 (Z4 (Z1 ([]))))))))))) (hU 0) (Z1 (U1 (Z1 (U2 (U1 (Z4 (U32 (U4 (U2 (U1 ([]))))))))))) m (.ptr 0 0 0 :: Y1 (.d (.int .i64 st) :: Y2 (Y1 (.ptr 1 0 0 :: .ptr 2 0 0 :: .d (.int .i64 w) :: .d (.int .i64 0) :: Y32 (Y4 (Y2 (Y1 ([])))))))) (rdO c p :: .box [.d (.int .i64 0),.sl 3 0 0 0,.sl 4 0 0 0] :: .box [.d (.int .i64 al),.sl 5 0 0 0,.sl 6 0 0 0] :: .arr [] 0 0 :: .arr [] 0 0 :: .arr [] 0 0 :: .arr [] 0 0 :: []) k
  = k (.exit 0) (.ptr 0 0 0 :: Y1 (.d (.int .i64 st) :: Y2 (Y1 (.ptr 1 0 0 :: .ptr 2 0 0 :: .d (.int .i64 w) :: .d (.int .i64 ((s:Int))) :: Y32 (Y4 (Y2 (Y1 ([])))))))) (rdO c q :: .box [.d (.int .i64 0),.sl 3 0 0 0,.sl 4 0 0 0] :: .box [.d (.int .i64 al),.sl 5 0 0 (List.length d2),.sl 6 0 0 (List.length bl2)] :: .arr [] 0 0 :: .arr [] 0 0 :: .vec (aD 7 d2 ++ aI 0) 1 0 :: .arr (aB bl2) 1 0 :: aJ d2):=by
 obtain ⟨j,hj⟩:∃ j,s = j + 1:=⟨s - 1,by omega⟩
 obtain ⟨r,q,g1,g2,kd1⟩:=R1 hc (al:=al) (st:=st) (i9:=0) hw (cs:=[]) (z:=0) w 0 p [] (by omega) rfl hp (by omega)
 obtain ⟨v,v0,v1,v2,kd2⟩:=jI hc q 3 (by omega) (by omega)
 obtain ⟨d2,bl2,q2,e1,e2,e3,e4,e5,kd3⟩:=TU hc (al:=al) (st:=st) hw hst hs j 1 (q + 1) [r] [decide (0 < v)] (by omega) rfl rfl (by intro x hx; simp at hx; subst hx; exact g1) (by omega) (by omega)
 refine ⟨d2,bl2,q2,e1,e2,e3,by omega,by omega,fun R L n m k hn hL hm => ?_⟩
 obtain _ | m:=m; omega
 have kd3':=kd3 R L n m k hn hL (by omega)
 have loop_c:=fun {R:Type} {n:Nat} {k:Exit → List A → H → Option R} (hn:2 ≤ n) => kd1 R L n L k hn hL (by omega)
 simp only [Int.natCast_zero,qS] at loop_c
 have e7:aD 7 [r] ++ aI 0 = [.sl 7 0 0 r.length]:=rfl
 have e8:aJ [r] = [.arr (ints r) 1 0]:=rfl
 have e9:aB [decide (0 < v)] = [.bool (decide (0 < v))]:=rfl
 rw [e7,e8,e9,g1] at kd3'
 simp only [List.length_cons,List.length_nil,Nat.zero_add,show ((1:Nat):Int) = 1 from rfl] at kd3'
 have hc1:(0:Int) < st:=by omega
 generalize hbv:decide (0 < v) = b at *
 clear kd1 kd3
 rw [vE]
 simp only [uG,Tryd.f91,SLM,simprocAttr]
 simp -implicitDefEqProofs (maxSteps:=2000000) (disch:=try exact Dz) only [↓DN,↓kAsg,↓kRet,UP,simprocAttr,↓bK,LA,hc1,hbv,↓loop_c,↓kd2,dZ,eN,yH,vX,↓kd3']
theorem Q3 {c:List UInt8} (hc:c.length ≤ 2000) (al st:Int) {s:Nat} (hst:st = s) (hs:s ≤ 100) (h1:1 ≤ s) (p:Int) (hp:0 ≤ p) (hp2:p + 7 * s ≤ 1000000000) :
  ∃ (nx:List (List Int)) (ac:List Bool) (q:Int),nx.length = s ∧ ac.length = s ∧ (∀ r ∈ nx,r.length = (aE al).length) ∧ p ≤ q ∧ q ≤ p + 7 * s ∧ ∀ (L n:Nat),3 ≤ n → 2 ^ 60 ≤ L →
  aA env L n 91 [.ptr 0 0 0,.d (.int .i64 al),.d (.int .i64 st)] [rdO c p] = some (autA 1 al nx.length ac.length,rdO c q :: autO 1 nx ac):=by
 obtain ⟨nx,ac,q,g1,g2,g3,g4,g5,kd⟩:=O1 hc (al:=al) (st:=st) (w:=(aE al).length) (eP al) hst hs h1 p hp hp2
 refine ⟨nx,ac,q,g1,g2,g3,g4,g5,fun L n hn hL => ?_⟩
 have loop_c:=fun {R:Type} {n:Nat} {k:Exit → List A → H → Option R} (hn:2 ≤ n) => kd R L n L k hn hL (by omega)
 have hnl:nx.length ≤ 4294967296:=by omega
 have hbl:(aB ac).length = ac.length:=d7
 unfold autA autO
 clear kd
 obtain _ | n:=n; omega
 rw [aEX]
 simp only [UX,Tryd.f91,SLM,simprocAttr]
 simp -implicitDefEqProofs (maxSteps:=2000000) (disch:=try exact Dz) only [↓DN,↓kAsg,↓kRet,UP,simprocAttr,↓bK,LA,hbl,↓loop_c,↓aLN,↓aMU,z0As,z0A,eq_self,aEw,aDt]
end Ev
end Go.Proofs.YtppdfjdfjfoddaaDoor
