/-
  Words: what the functions on words give.
-/
import Derived.Test.YtppdfjdfjfoddaaGreatSortLayX
import Derived.Test.YtppdfjdfjfoddaaGreatMemD
import Derived.Test.YtppdfjdfjfoddaaGreatCopy
set_option linter.unusedSimpArgs false
set_option linter.unusedVariables false
set_option maxRecDepth 8000
set_option maxHeartbeats 4000000
namespace Go.Proofs.YtppdfjdfjfoddaaGreat
namespace Ev
def ltr (b:UInt8):Int:=(b.toNat:Int) - 97
def mP (l:Int):UInt8:=UInt8.ofNat (97 + l).toNat
theorem aS0 {b:UInt8}:IntKind.i64.wrap ((b.toNat:Int) - 97) = ltr b:=CA (by omega) (by have:=toNat_lt b; omega)
theorem aEV {l:Int} (h0:0 ≤ l) (h:l ≤ 5):IntKind.u8.wrap (97 + l) = ((mP l).toNat:Int):=by
 rw [aUf (by omega) (by omega)]
 unfold mP
 rw [UInt8.toNat_ofNat']
 omega
theorem aGX {L n:Nat} (hn:1 ≤ n) (s:List UInt8) (i:Int) (h0:0 ≤ i) (h:i < s.length):aA env L n 27 [.d (.str s),.d (.int .i64 i)] [] = some (.d (.int .i64 (if uO (ltr (s.getD i.toNat 0)) then ltr (s.getD i.toNat 0) else -1)),[]):=by
 obtain _ | n:=n; omega
 rw [aGM]
 simp only [XP,Tryz.f27,SLM,simprocAttr]
 simp -implicitDefEqProofs (maxSteps:=2000000) (disch:=try exact Dz) only [↓DN,↓kAsg,↓kRet,UP,simprocAttr,RZ,↓aEm,aBE,aS0]
 generalize ltr (s.getD i.toNat 0) = v
 unfold uO
 by_cases h1:v < 0
 ·have h2:¬ 0 ≤ v:=by omega
  simp [h1,h2]
 ·have h2:0 ≤ v:=by omega
  by_cases h3:6 ≤ v
  ·have h4:¬ v < 6:=by omega
   simp [h1,h2,h3,h4]
  ·have h4:v < 6:=by omega
   simp [h1,h2,h3,h4]
theorem gE {R:Type} {L n:Nat} {hq:H} {k:A → H → Option R} (hn:1 ≤ n) (s:List UInt8) (i:Int) (h0:0 ≤ i) (h:i < s.length):aL env (aA env L n) hq 27 [.d (.str s),.d (.int .i64 i)] k = k (.d (.int .i64 (if uO (ltr (s.getD i.toNat 0)) then ltr (s.getD i.toNat 0) else -1))) hq :=
 aR rfl (aGX hn s i h0 h) rfl (.inl rfl)
theorem aCU {L n:Nat} (hn:1 ≤ n) (l:Int) (h0:0 ≤ l) (h:l ≤ 5):aA env L n 95 [.d (.int .i64 l)] [] = some (.d (.int .u8 (mP l).toNat),[]):=by
 have e:IntKind.u8.wrap (97 + l) = ((mP l).toNat:Int):=aEV h0 h
 obtain _ | n:=n; omega
 rw [aBQ]
 simp only [QJ,Tryz.f95,SLM,simprocAttr]
 simp -implicitDefEqProofs (maxSteps:=2000000) (disch:=try exact Dz) only [↓DN,↓kAsg,↓kRet,UP,simprocAttr,↓aEq,e]
theorem B7 {R:Type} {L n:Nat} {hq:H} {k:A → H → Option R} (hn:1 ≤ n) (l:Int) (h0:0 ≤ l) (h:l ≤ 5):aL env (aA env L n) hq 95 [.d (.int .i64 l)] k = k (.d (.int .u8 (mP l).toNat)) hq :=
 aR rfl (aCU hn l h0 h) rfl (.inl rfl)
def okB (b:UInt8):Bool:=uO (ltr b)
def rJ (s:List UInt8):Bool:=decide (s.length ≤ 50000) && s.all okB
def upTo {α:Type} (p:α → Bool) (l:List α) (i:Nat):Int:=(i:Int) + ((l.drop i).takeWhile p).length
theorem aPE {α:Type} {p:α → Bool} {l:List α}:upTo p l l.length = l.length:=by
 unfold upTo; simp
theorem aM8 {α:Type} {p:α → Bool} {l:List α} {i:Nat} {d:α} (h:i < l.length) (hp:p (l.getD i d) = false):upTo p l i = i:=by
 unfold upTo
 rw [List.getD_eq_getElem?_getD,List.getElem?_eq_getElem h] at hp
 simp only [Option.getD_some] at hp
 rw [List.drop_eq_getElem_cons h,List.takeWhile_cons,hp]
 simp
theorem aTG {α:Type} {p:α → Bool} {l:List α} {i:Nat} {d:α} (h:i < l.length) (hp:p (l.getD i d) = true):upTo p l i = upTo p l (i + 1):=by
 unfold upTo
 rw [List.getD_eq_getElem?_getD,List.getElem?_eq_getElem h] at hp
 simp only [Option.getD_some] at hp
 rw [List.drop_eq_getElem_cons h,List.takeWhile_cons,hp]
 simp; omega
theorem aQf {α:Type} {p:α → Bool} {l:List α} {i:Nat} {d:α} (h:i < l.length) (hp:p (l.getD i d) = false):(l.drop i).all p = false:=by
 rw [List.getD_eq_getElem?_getD,List.getElem?_eq_getElem h] at hp
 simp only [Option.getD_some] at hp
 rw [List.drop_eq_getElem_cons h,List.all_cons,hp]
 rfl
theorem aTH {α:Type} {p:α → Bool} {l:List α} {i:Nat} {d:α} (h:i < l.length) (hp:p (l.getD i d) = true):(l.drop i).all p = (l.drop (i + 1)).all p:=by
 rw [List.getD_eq_getElem?_getD,List.getElem?_eq_getElem h] at hp
 simp only [Option.getD_some] at hp
 rw [List.drop_eq_getElem_cons h,List.all_cons,hp]
 rfl
theorem TK {α:Type} {p:α → Bool} {l:List α}:(l.drop (0:Int).toNat).all p = l.all p:=by simp
def inB (a:Int) (b:UInt8):Bool:=okB b && iA a (ltr b)
def tG (a:Int) (s:List UInt8):Bool:=m5 a && decide (s.length ≤ 50000) && s.all (inB a)
theorem aNS {a:Int} {b:UInt8}:(decide (0 ≤ (if uO (ltr b) then ltr b else -1)) && iA a (if uO (ltr b) then ltr b else -1)) = inB a b:=by
 unfold inB okB
 cases h:uO (ltr b) with
 | true =>
  have:=aFe.1 h
  have h2:0 ≤ ltr b:=by omega
  simp [h2]
 | false => simp
theorem rA {R:Type} {L n:Nat} (hn:1 ≤ n) {s:List UInt8} {a:Int} (hs:s.length < 4294967296) {k:Exit → List A → H → Option R}:∀ (i:Int) (m:Nat) (h0:0 ≤ i) (hi:i ≤ s.length) (hm:(s.length:Int) - i < m),
  aO env (aA env L n) L 0 [] (U2 (Z2 (U1 (Z8 (Z2 (U2 (Z8 (Z1 ([]))))))))) (pX 0) (Z2 (U2 (Z1 (U8 (U2 (Z2 (U8 (U1 ([]))))))))) m (.d (.str s) :: .d (.int .i64 a) :: Y2 (.d (.bool false) :: Y8 (Y2 (.d (.int .i64 (s.length)) :: .d (.int .i64 i) :: Y8 (Y1 ([])))))) [] k
  = if (s.drop i.toNat).all (inB a) then k (.exit 0) (.d (.str s) :: .d (.int .i64 a) :: Y2 (.d (.bool false) :: Y8 (Y2 (.d (.int .i64 (s.length)) :: .d (.int .i64 ((upTo (inB a) s i.toNat))) :: Y8 (Y1 ([])))))) [] else k .ret (.d (.str s) :: .d (.int .i64 a) :: Y2 (.d (.bool false) :: Y8 (Y2 (.d (.int .i64 (s.length)) :: .d (.int .i64 ((upTo (inB a) s i.toNat))) :: Y8 (Y1 ([])))))) []:=by
 intro i m h0 hi hm
 obtain ⟨j,hj⟩:∃ j:Nat,(j:Int) = (s.length:Int) - i:=⟨((s.length:Int) - i).toNat,by omega⟩
 induction j generalizing i m with
 | zero =>
  obtain _ | m:=m; omega
  obtain rfl:i = s.length:=by omega
  rw [tV]
  simp only [sO,Tryz.f25,SLM,simprocAttr]
  simp -implicitDefEqProofs (maxSteps:=2000000) (disch:=try exact Dz) only [↓DN,↓kAsg,↓kRet,UP,simprocAttr,↓cA,↓gE,↓pB,qK,Int.lt_irrefl]
  simp only [Int.toNat_natCast,List.drop_length,List.all_nil,if_true,aPE]
 | succ j ih =>
  obtain _ | m:=m; omega
  have hc:i < s.length:=by omega
  have hk:i.toNat < s.length:=by omega
  have e1:(i + 1).toNat = i.toNat + 1:=by omega
  cases hb:inB a (s.getD i.toNat 0) with
  | true =>
   rw [tV]
   simp only [sO,Tryz.f25,SLM,simprocAttr]
   simp -implicitDefEqProofs (maxSteps:=2000000) (disch:=try exact Dz) only [↓DN,↓kAsg,↓kRet,UP,simprocAttr,↓cA,qK,hc,↓gE,↓pB,aNS,hb,↓ih]
   rw [e1,aTH hk hb,aTG hk hb]
  | false =>
   rw [aQf hk hb,aM8 hk hb]
   rw [tV]
   simp only [sO,Tryz.f25,SLM,simprocAttr]
   simp -implicitDefEqProofs (maxSteps:=2000000) (disch:=try exact Dz) only [↓DN,↓kAsg,↓kRet,UP,simprocAttr,↓cA,qK,hc,↓gE,↓pB,aNS,hb]
   rw [Int.toNat_of_nonneg h0]
theorem aCL {L n:Nat} (hn:2 ≤ n) (s:List UInt8) (a:Int) (hL:2 ^ 60 ≤ L):aA env L n 25 [.d (.str s),.d (.int .i64 a)] [] = some (.d (.bool (tG a s)),[]):=by
 unfold tG
 cases hal:m5 a with
 | false =>
  obtain _ | n:=n; omega
  rw [uL]
  simp only [rF,Tryz.f25,SLM,simprocAttr]
  simp -implicitDefEqProofs (maxSteps:=2000000) (disch:=try exact Dz) only [↓DN,↓kAsg,↓kRet,UP,simprocAttr,↓gE,↓pB,↓rA,qK,↓cA,hal]
  all_goals rfl
 | true =>
  by_cases hs:s.length ≤ 50000
  ·have hs':¬ (50000:Int) < s.length:=by omega
   cases ha:s.all (inB a) with
   | true =>
    obtain _ | n:=n; omega
    rw [uL]
    simp only [rF,Tryz.f25,SLM,simprocAttr]
    simp -implicitDefEqProofs (maxSteps:=2000000) (disch:=try exact Dz) only [↓DN,↓kAsg,↓kRet,UP,simprocAttr,↓gE,↓pB,qK,↓cA,hal,hs',↓rA,TK,ha]
    simp [hs]
   | false =>
    obtain _ | n:=n; omega
    rw [uL]
    simp only [rF,Tryz.f25,SLM,simprocAttr]
    simp -implicitDefEqProofs (maxSteps:=2000000) (disch:=try exact Dz) only [↓DN,↓kAsg,↓kRet,UP,simprocAttr,↓gE,↓pB,qK,↓cA,hal,hs',↓rA,TK,ha]
    all_goals simp
  ·have hs':(50000:Int) < s.length:=by omega
   obtain _ | n:=n; omega
   rw [uL]
   simp only [rF,Tryz.f25,SLM,simprocAttr]
   simp -implicitDefEqProofs (maxSteps:=2000000) (disch:=try exact Dz) only [↓DN,↓kAsg,↓kRet,UP,simprocAttr,↓gE,↓pB,↓rA,qK,↓cA,hal,hs']
   simp [hs]
theorem nZ {R:Type} {L n:Nat} {hq:H} {k:A → H → Option R} (hn:2 ≤ n) (s:List UInt8) (a:Int) (hL:2 ^ 60 ≤ L):aL env (aA env L n) hq 25 [.d (.str s),.d (.int .i64 a)] k = k (.d (.bool (tG a s))) hq :=
 aR rfl (aCL hn s a hL) rfl (.inl rfl)
theorem aEN {L n:Nat} (hn:3 ≤ n) (s:List UInt8) (hL:2 ^ 60 ≤ L):aA env L n 28 [.d (.str s)] [] = some (.d (.bool (rJ s)),[]):=by
 have e:tG 63 s = rJ s:=by
  unfold tG rJ
  have:inB 63 = okB:=by
   funext b
   unfold inB okB
   cases h:uO (ltr b) with
   | false => rfl
   | true =>
    have hb:=aFe.1 h
    have:ltr b = 0 ∨ ltr b = 1 ∨ ltr b = 2 ∨ ltr b = 3 ∨ ltr b = 4 ∨ ltr b = 5:=by omega
    rcases this with h | h | h | h | h | h <;> rw [h] <;> decide
  rw [this]
  rfl
 obtain _ | n:=n; omega
 rw [aEB]
 simp only [SK,Tryz.f28,SLM,simprocAttr]
 simp -implicitDefEqProofs (maxSteps:=2000000) (disch:=try exact Dz) only [↓DN,↓kAsg,↓kRet,UP,simprocAttr,↓nZ,e]
theorem D6 {R:Type} {L n:Nat} {hq:H} {k:A → H → Option R} (hn:3 ≤ n) (s:List UInt8) (hL:2 ^ 60 ≤ L):aL env (aA env L n) hq 28 [.d (.str s)] k = k (.d (.bool (rJ s))) hq :=
 aR rfl (aEN hn s hL) rfl (.inl rfl)
theorem eC {R:Type} {call:a7} {h:H} {f:FuncId} {args:List A} {c:List UInt8} {p q:Int} {r:A} {k:A → H → Option R} (hm:(env.hint f).mode = 0) (ha:idsL args = []) (hr:idsA r = []) (he:call f (.ptr 0 0 0 :: args) [rdO c p] = some (r,[rdO c q])) :
  aL env call (rdO c p :: h) f (.ptr 0 0 0 :: args) k = k r (rdO c q :: h):=by
 have hid:idsL (A.ptr 0 0 0 :: args) = [0]:=by simp [idsL,idsA,ha]
 have hre:aD aE (rdO c p :: h) [0] [] = [0]:=rfl
 have hpk:pack (rdO c p :: h) [0] = [rdO c p]:=rfl
 have hma:aF (aJ [0]) (A.ptr 0 0 0 :: args) = A.ptr 0 0 0 :: args:=by
  simp only [aF,nB _ ha]; rfl
 unfold aL
 rw [hid,hre,hpk,hma]
 have hc:dT call env.hint [rdO c p] f (.ptr 0 0 0 :: args) = some (r,[rdO c q]):=by
  unfold dT; rw [hm]; exact he
 rw [hc]
 have hcl:closed (rdO c p :: h) [0] [0] = true:=rfl
 simp only [List.length_cons,List.length_nil,Nat.le_refl,hcl,and_self,if_true,vM r hr]
 congr 1
 simp [bP,mapO,aF,mapA]
theorem aDm:(env.hint 30).mode = 0:=by kernel_rfl
theorem aMd {a b:Int} (ha:0 ≤ a) (ha2:a < 2 ^ 62) (hb:0 ≤ b) (hb2:b < 2 ^ 62):0 ≤ iXor .i64 a b ∧ iXor .i64 a b < 2 ^ 62:=by
 obtain ⟨m,rfl⟩:=Int.eq_ofNat_of_zero_le ha
 obtain ⟨n,rfl⟩:=Int.eq_ofNat_of_zero_le hb
 have hm:m < 2 ^ 62:=by omega
 have hn:n < 2 ^ 62:=by omega
 have hx:(BitVec.ofInt 64 (m:Int) ^^^ BitVec.ofInt 64 (n:Int)).toNat = m ^^^ n:=by
  rw [BitVec.toNat_xor]
  congr 1 <;> (simp only [BitVec.ofInt_natCast,BitVec.toNat_ofNat]; omega)
 have hlt:m ^^^ n < 2 ^ 62:=Nat.xor_lt_two_pow hm hn
 unfold iXor
 have:(BitVec.ofInt IntKind.i64.bits (m:Int) ^^^ BitVec.ofInt IntKind.i64.bits (n:Int)).toNat = m ^^^ n:=hx
 rw [this,CA (by omega) (by omega)]
 omega
theorem jE {c:List UInt8} (hc:c.length ≤ 2000) (p b:Int) (hp:0 ≤ p) (hp2:p ≤ 1000000000):∃ v:Int,0 ≤ v ∧ (1 ≤ b → v < b) ∧ (b < 1 → v = 0) ∧ (Dw 1 30 [.d (.int .i64 b)] (.d (.int .i64 v)) c p (p + 1)):=by
 by_cases h1:b < 1
 ·refine ⟨0,by omega,by omega,by omega,fun R L n hq k hn hL => eC aDm rfl rfl ?_⟩
  obtain _ | n:=n; omega
  rw [uM]
  simp only [rX,Tryz.f30,SLM,simprocAttr]
  simp -implicitDefEqProofs (maxSteps:=2000000) (disch:=try exact Dz) only [↓DN,↓kAsg,↓kRet,UP,simprocAttr,h1]
 ·by_cases h2:c.length = 0
  ·refine ⟨0,by omega,by omega,by omega,fun R L n hq k hn hL => eC aDm rfl rfl ?_⟩
   have h2':(c.length:Int) = 0:=by omega
   obtain _ | n:=n; omega
   rw [uM]
   simp only [rX,Tryz.f30,SLM,simprocAttr]
   simp -implicitDefEqProofs (maxSteps:=2000000) (disch:=try exact Dz) only [↓DN,↓kAsg,↓kRet,UP,simprocAttr,h1,h2']
  ·have h2':¬ (c.length:Int) = 0:=by omega
   by_cases h3:p < c.length
   ·have hb:b ≠ 0:=by omega
    have t0:0 ≤ ((c.getD p.toNat 0).toNat:Int).tmod b:=Int.tmod_nonneg b (by omega)
    have t1:((c.getD p.toNat 0).toNat:Int).tmod b < b:=Int.tmod_lt_of_pos _ (by omega)
    refine ⟨((c.getD p.toNat 0).toNat:Int).tmod b,t0,fun _ => t1,by omega,fun R L n hq k hn hL => eC aDm rfl rfl ?_⟩
    have e1:p + 1 - 1 = p:=by omega
    obtain _ | n:=n; omega
    rw [uM]
    simp only [rX,Tryz.f30,SLM,simprocAttr]
    simp -implicitDefEqProofs (maxSteps:=2000000) (disch:=try exact Dz) only [↓DN,↓kAsg,↓kRet,UP,simprocAttr,h1,h2',e1,h3]
   ·have e1:p + 1 - 1 = p:=by omega
    have hl1:(0:Int) < c.length:=by omega
    have q1:0 ≤ p.tmod c.length:=Int.tmod_nonneg _ hp
    have q2:p.tmod c.length < c.length:=Int.tmod_lt_of_pos _ hl1
    have q3:0 ≤ (p * 7 + 3).tmod c.length:=Int.tmod_nonneg _ (by omega)
    have q4:(p * 7 + 3).tmod c.length < c.length:=Int.tmod_lt_of_pos _ hl1
    have q5:0 ≤ p.tdiv c.length:=Int.tdiv_nonneg hp (by omega)
    have q6:p.tdiv c.length ≤ p:=Int.tdiv_le_self _ hp
    have b1:=toNat_lt (c.getD (p.tmod c.length).toNat 0)
    have b2:=toNat_lt (c.getD ((p * 7 + 3).tmod c.length).toNat 0)
    have r1:(p.tmod c.length).toNat < c.length:=by omega
    have r2:((p * 7 + 3).tmod c.length).toNat < c.length:=by omega
    obtain ⟨x,hx⟩:∃ x:Int,x = ((c.getD (p.tmod c.length).toNat 0).toNat:Int) * 131 + ((c.getD ((p * 7 + 3).tmod c.length).toNat 0).toNat:Int) * 1117 + p * 29 + p.tdiv c.length * 53:=⟨_,rfl⟩
    have x0:0 ≤ x:=by omega
    have x1:x < 2 ^ 62:=by omega
    have y0:0 ≤ x.tdiv 64:=Int.tdiv_nonneg x0 (by omega)
    have y1:x.tdiv 64 < 2 ^ 62:=by have:=Int.tdiv_le_self 64 x0; omega
    have z:=aMd x0 x1 y0 y1
    have hb:b ≠ 0:=by omega
    have t0:0 ≤ (iXor .i64 x (x.tdiv 64)).tmod b:=Int.tmod_nonneg b z.1
    have t1:(iXor .i64 x (x.tdiv 64)).tmod b < b:=Int.tmod_lt_of_pos _ (by omega)
    refine ⟨(iXor .i64 x (x.tdiv 64)).tmod b,t0,fun _ => t1,by omega,fun R L n hq k hn hL => eC aDm rfl rfl ?_⟩
    clear b1 b2 z t0 t1
    have b1:=toNat_lt (c.getD (p.tmod c.length).toNat 0)
    have b2:=toNat_lt (c.getD ((p * 7 + 3).tmod c.length).toNat 0)
    subst hx
    obtain _ | n:=n; omega
    rw [uM]
    simp only [rX,Tryz.f30,SLM,simprocAttr]
    simp -implicitDefEqProofs (maxSteps:=2000000) (disch:=try exact Dz) only [↓DN,↓kAsg,↓kRet,UP,simprocAttr,h1,h2',e1,h3]
theorem aUi:(env.hint 55).mode = 0:=by kernel_rfl
theorem m_of:(env.hint 52).mode = 0:=by kernel_rfl
theorem aNF {R:Type} {call:a7} {hq:H} {f:FuncId} {c:List UInt8} {p q:Int} {r:A} {k:A → H → Option R} {cs:List D} {e g n id:Nat} (hi:hq[id]? = some (.arr cs e g)) (hm:(env.hint f).mode = 0) (hr:idsA r = []) (he:call f [.ptr 0 0 0,.sl 1 g 0 n] [rdO c p,.arr cs e g] = some (r,[rdO c q,.arr cs e g])) :
  aL env call (rdO c p :: hq) f [.ptr 0 0 0,.sl (id + 1) g 0 n] k = k r (rdO c q :: hq):=by
 have hlk:(rdO c p :: hq)[id + 1]? = some (.arr cs e g):=by rw [List.getElem?_cons_succ]; exact hi
 have hre:aD aE (rdO c p :: hq) [0,id + 1] [] = [0,id + 1]:=by
  have e1:aD aE (rdO c p :: hq) [0,id + 1] [] = aD (aE - 1) (rdO c p :: hq) [id + 1] [0]:=rfl
  have e2:aD (aE - 1) (rdO c p :: hq) [id + 1] [0] = if [0].contains (id + 1) = true then aD (aE - 2) (rdO c p :: hq) [] [0] else match (rdO c p :: hq)[id + 1]? with
   | some (.box cs) => aD (aE - 2) (rdO c p :: hq) ([] ++ idsL cs) ([0] ++ [id + 1])
   | some (.vec cs _ _) => aD (aE - 2) (rdO c p :: hq) ([] ++ idsL cs) ([0] ++ [id + 1])
   | some .void => aD (aE - 2) (rdO c p :: hq) [] [0]
   | some _ => aD (aE - 2) (rdO c p :: hq) [] ([0] ++ [id + 1])
   | none => aD (aE - 2) (rdO c p :: hq) [] [0]:=rfl
  have e3:[0].contains (id + 1) = false:=by simp
  rw [e1,e2,e3,hlk]
  rfl
 have hpk:pack (rdO c p :: hq) [0,id + 1] = [rdO c p,.arr cs e g]:=by
  simp only [pack,List.map_cons,List.map_nil,List.getD_eq_getElem?_getD,hlk]
  rfl
 unfold aL
 have hid:idsL [A.ptr 0 0 0,A.sl (id + 1) g 0 n] = [0,id + 1]:=rfl
 rw [hid,hre,hpk]
 have hma:aF (aJ [0,id + 1]) [A.ptr 0 0 0,A.sl (id + 1) g 0 n] = [A.ptr 0 0 0,A.sl 1 g 0 n]:=by
  simp [aF,mapA,aJ]
 rw [hma]
 have hc:dT call env.hint [rdO c p,.arr cs e g] f [.ptr 0 0 0,.sl 1 g 0 n] = some (r,[rdO c q,.arr cs e g]):=by
  unfold dT; rw [hm]; exact he
 rw [hc]
 have hcl:closed (rdO c p :: hq) [0,id + 1] [0,id + 1] = true:=by
  simp only [closed,List.all_cons,List.all_nil,hlk,List.getElem?_cons_zero]
  simp [idsL,idsA]
 simp only [List.length_cons,List.length_nil,Nat.le_refl,hcl,and_self,if_true,vM r hr]
 congr 1
 simp only [bP,mapO,aF,mapA,List.map_nil,List.append_nil,List.set_cons_zero,List.set_cons_succ]
 congr 1
 exact aTr hi
theorem aHu {α:Type} {l:List α} {k:Nat} {d:α} (h:k < l.length):l.getD k d ∈ l:=by
 rw [List.getD_eq_getElem?_getD,List.getElem?_eq_getElem h]; exact List.getElem_mem h
theorem aTP {c:List UInt8} (hc:c.length ≤ 2000) (l:List Int) (g:Nat) (hl:0 < l.length) (hl2:l.length < 1000) (p:Int) (hp:0 ≤ p) (hp2:p ≤ 1000000000):∃ v:Int,v ∈ l ∧ ∀ (L n:Nat),2 ≤ n → 2 ^ 60 ≤ L → aA env L n 55 [.ptr 0 0 0,.sl 1 g 0 l.length] [rdO c p,.arr (ints l) 1 g] = some (.d (.int .i64 v),[rdO c (p + 1),.arr (ints l) 1 g]):=by
 obtain ⟨v,v0,v1,_,kd⟩:=jE hc p l.length hp hp2
 have v1:=v1 (by omega)
 have hk:v.toNat < l.length:=by omega
 refine ⟨l.getD v.toNat 0,aHu hk,fun L n hn hL => ?_⟩
 obtain _ | n:=n; omega
 rw [aEn]
 simp only [S8,Tryz.f55,SLM,simprocAttr]
 simp -implicitDefEqProofs (maxSteps:=2000000) (disch:=try exact Dz) only [↓DN,↓kAsg,↓kRet,UP,simprocAttr,↓kd]
theorem K0 {c:List UInt8} (hc:c.length ≤ 2000) (l:List Int) (hl:0 < l.length) (hl2:l.length < 1000) (p:Int) (hp:0 ≤ p) (hp2:p ≤ 1000000000):∃ v:Int,v ∈ l ∧ (∀ (R:Type) (L n id:Nat) (hq:H) (k:A → H → Option R),2 ≤ n → 2 ^ 60 ≤ L → hq[id]? = some (.arr (ints l) 1 0) → aL env (aA env L n) (rdO c p :: hq) 55 [.ptr 0 0 0,.sl (id + 1) 0 0 l.length] k = k (.d (.int .i64 v)) (rdO c (p + 1) :: hq)):=by
 obtain ⟨v,hv,he⟩:=aTP hc l 0 hl hl2 p hp hp2
 exact ⟨v,hv,fun R L n id hq k hn hL hi => aNF hi aUi rfl (he L n hn hL)⟩
def cR (l:List (List UInt8)):List D:=l.map .str
theorem vL {l:List (List UInt8)}:(cR l).length = l.length:=by simp [cR]
theorem RJ {l:List (List UInt8)} {k:Nat} (h:k < l.length):(((cR l).drop k).map A.d).head? = some (.d (.str (l.getD k []))):=by
 rw [List.head?_map,List.head?_drop,cR,List.getElem?_map,List.getD_eq_getElem?_getD,List.getElem?_eq_getElem h]
 rfl
theorem aT7 {c:List UInt8} (hc:c.length ≤ 2000) (l:List (List UInt8)) (hl:0 < l.length) (hl2:l.length < 1000) (p:Int) (hp:0 ≤ p) (hp2:p ≤ 1000000000):∃ v:List UInt8,v ∈ l ∧ (Dw 2 52 [.d (.ivs l.length (cR l))] (.d (.str v)) c p (p + 1)):=by
 obtain ⟨v,v0,v1,_,kd⟩:=jE hc p l.length hp hp2
 have v1:=v1 (by omega)
 have hk:v.toNat < l.length:=by omega
 refine ⟨l.getD v.toNat [],aHu hk,fun R L n hq k hn hL => eC m_of rfl rfl ?_⟩
 obtain _ | n:=n; omega
 rw [aGJ]
 simp only [UR,Tryz.f52,SLM,simprocAttr]
 simp -implicitDefEqProofs (maxSteps:=2000000) (disch:=try exact Dz) only [↓DN,↓kAsg,↓kRet,UP,simprocAttr,↓kd,vL,RJ]
theorem aBe {R:Type} {L n:Nat} (hn:1 ≤ n) {a:Int} {k:Exit → List A → H → Option R}:∀ (i:Int) (m:Nat) (l:List Int) (len:Nat) (h0:0 ≤ i) (hi:i ≤ 6) (hm:6 - i < m) (hl:len = l.length) (hlen:(l.length:Int) ≤ i),
  aO env (aA env L n) L 0 [] (U1 (Z1 (U2 (U1 (Z8 (Z4 (Z1 ([])))))))) (r9 0) (Z1 (U1 (Z2 (Z1 (U8 (U4 (U1 ([])))))))) m (.d (.int .i64 a) :: Y1 (.d .nils :: .sl 0 0 0 len :: .d (.int .i64 i) :: Y8 (Y4 (Y1 ([]))))) [.arr (ints l) 1 0] k
  = k (.exit 0) (.d (.int .i64 a) :: Y1 (.d .nils :: .sl 0 0 0 (len + ((uD (6 - i).toNat).filter (iA a)).length) :: .d (.int .i64 6) :: Y8 (Y4 (Y1 ([]))))) [.arr (ints (l ++ (uD (6 - i).toNat).filter (iA a))) 1 0]:=by
 intro i m l len h0 hi hm hl hlen
 obtain ⟨j,hj⟩:∃ j:Nat,(j:Int) = (6:Int) - i:=⟨((6:Int) - i).toNat,by omega⟩
 induction j generalizing i m l len with
 | zero =>
  obtain _ | m:=m; omega
  obtain rfl:i = 6:=by omega
  rw [uR]
  simp only [uB,Tryz.f41,SLM,simprocAttr]
  simp -implicitDefEqProofs (maxSteps:=2000000) (disch:=try exact Dz) only [↓DN,↓kAsg,↓kRet,UP,simprocAttr,↓lI]
  simp only [uD,List.filter_nil,List.append_nil,List.length_nil,Nat.add_zero]
 | succ j ih =>
  obtain _ | m:=m; omega
  have hc:i < 6:=by omega
  have e1:(6 - i).toNat = j + 1:=by omega
  have e2:(6 - (i + 1)).toNat = j:=by omega
  have hr:uD (j + 1) = i :: uD j:=by simp only [uD]; congr 1; omega
  rw [e1,hr,List.filter_cons]
  cases hb:iA a i with
  | true =>
   rw [uR]
   simp only [uB,Tryz.f41,SLM,simprocAttr]
   simp -implicitDefEqProofs (maxSteps:=2000000) (disch:=try exact Dz) only [↓DN,↓kAsg,↓kRet,UP,simprocAttr,↓lI,↓ih,hc,hb,e2]
   simp only [List.append_assoc,List.cons_append,List.nil_append,Nat.add_assoc,Nat.add_comm 1]
  | false =>
   rw [uR]
   simp only [uB,Tryz.f41,SLM,simprocAttr]
   simp -implicitDefEqProofs (maxSteps:=2000000) (disch:=try exact Dz) only [↓DN,↓kAsg,↓kRet,UP,simprocAttr,↓lI,↓ih,hc,hb,e2]
theorem aT0:uD (6 - (0:Int)).toNat = [0,1,2,3,4,5]:=rfl
theorem aEv {L n:Nat} (hn:2 ≤ n) (a:Int) (hL:2 ^ 60 ≤ L):aA env L n 41 [.d (.int .i64 a)] [] = some (.d (.ivs (aC a).length (ints (aC a))),[]):=by
 unfold aC
 rw [← aT0]
 obtain _ | n:=n; omega
 rw [aEc]
 simp only [TA,Tryz.f41,SLM,simprocAttr]
 simp -implicitDefEqProofs (maxSteps:=2000000) (disch:=try exact Dz) only [↓DN,↓kAsg,↓kRet,UP,simprocAttr,↓lI,aQF,↓aBe]
theorem aX {R:Type} {L n:Nat} {hq:H} {k:A → H → Option R} (hn:2 ≤ n) (a:Int) (hL:2 ^ 60 ≤ L):aL env (aA env L n) hq 41 [.d (.int .i64 a)] k = k (.d (.ivs (aC a).length (ints (aC a)))) hq :=
 aR rfl (aEv hn a hL) rfl (.inr rfl)
theorem aJW {L n:Nat} (hn:1 ≤ n) (l:Int) (h0:0 ≤ l) (h:l ≤ 5):aA env L n 78 [.d (.int .i64 l)] [] = some (.d (.str [mP l]),[]):=by
 have e:IntKind.u8.wrap (97 + l) = ((mP l).toNat:Int):=aEV h0 h
 have e2:[D.int .u8 ((mP l).toNat:Int)] = bT [mP l]:=rfl
 obtain _ | n:=n; omega
 rw [aJQ]
 simp only [aB0,Tryz.f78,SLM,simprocAttr]
 simp -implicitDefEqProofs (maxSteps:=2000000) (disch:=try exact Dz) only [↓DN,↓kAsg,↓kRet,UP,simprocAttr,e,e2,↓PS]
theorem eX {R:Type} {L n:Nat} {hq:H} {k:A → H → Option R} (hn:1 ≤ n) (l:Int) (h0:0 ≤ l) (h:l ≤ 5):aL env (aA env L n) hq 78 [.d (.int .i64 l)] k = k (.d (.str [mP l])) hq :=
 aR rfl (aJW hn l h0 h) rfl (.inl rfl)
theorem WQ {c:List UInt8} (hc:c.length ≤ 2000) {al st i9:Int} {w:Nat} (hw:w ≤ 6) {d:List (List Int)} (hdl:d.length ≤ 4294967296) {cs:List D} {z:Nat}:∀ (j i:Nat) (p:Int) (o:List Int) (hi:i + j = w) (ho:o.length = i) (hp:0 ≤ p) (hp2:p + j ≤ 1000000000),
  ∃ (r:List Int) (q:Int),r.length = w ∧ q = p + j ∧ ∀ (R:Type) (L n m:Nat) (k:Exit → List A → H → Option R),2 ≤ n → 2 ^ 60 ≤ L → j < m →
  aO env (aA env L n) L 1 [0,0,0,0,0,0,0,0,0,0,0,0,0,0,0,0,0,0,0,0,0,0,0,0,0,0,0,0,0,0,0,0,0,0,0,0,0,1002] (U1 (Z1 (U1 (Z2 (Z1 (U4 (U2 (Z32 (Z4 (Z1 ([]))))))))))) (hZ 1) (Z1 (U1 (Z1 (U2 (U1 (Z4 (Z2 (U32 (U4 (U1 ([]))))))))))) m (.ptr 0 0 0 :: Y1 (.d (.int .i64 st) :: Y2 (Y1 (.ptr 1 0 0 :: .ptr 2 0 0 :: .d (.int .i64 w) :: .d (.int .i64 i9) :: .sl 3 0 0 i :: .d (.int .i64 ((i:Int))) :: Y32 (Y4 (Y1 ([]))))))) (rdO c p :: .box [.d (.int .i64 0),.sl 4 0 0 0,.sl 5 0 0 0] :: .box [.d (.int .i64 al),.sl 6 0 0 d.length,.sl 7 0 0 z] :: .arr (ints o) 1 0 :: .arr [] 0 0 :: .arr [] 0 0 :: .vec (aB 8 d ++ aG 0) 1 0 :: .arr cs 1 0 :: aI d) k
  = k (.exit 2) (.ptr 0 0 0 :: Y1 (.d (.int .i64 st) :: Y2 (Y1 (.ptr 1 0 0 :: .ptr 2 0 0 :: .d (.int .i64 w) :: .d (.int .i64 i9) :: .sl 3 0 0 w :: .d (.int .i64 ((w:Int))) :: Y32 (Y4 (Y1 ([]))))))) (rdO c q :: .box [.d (.int .i64 0),.sl 4 0 0 0,.sl 5 0 0 0] :: .box [.d (.int .i64 al),.sl 6 0 0 d.length,.sl 7 0 0 z] :: .arr (ints r) 1 0 :: .arr [] 0 0 :: .arr [] 0 0 :: .vec (aB 8 d ++ aG 0) 1 0 :: .arr cs 1 0 :: aI d):=by
 intro j
 induction j with
 | zero =>
  intro i p o hi ho hp hp2
  obtain rfl:i = w:=by omega
  refine ⟨o,p,ho,by omega,fun R L n m k hn hL hm => ?_⟩
  obtain _ | m:=m; omega
  subst ho
  rw [rB]
  simp only [r7,Tryz.f86,SLM,simprocAttr]
  simp -implicitDefEqProofs (maxSteps:=2000000) (disch:=try exact Dz) only [↓DN,↓kAsg,↓kRet,UP,simprocAttr,↓aX,LA,Int.lt_irrefl,dO,tP,BR,yB,↓aK1,↓aJb]
 | succ j ih =>
  intro i p o hi ho hp hp2
  obtain ⟨v,v0,v1,v2,kd⟩:=jE hc p st hp (by omega)
  obtain ⟨r,q,g1,g2,kd2⟩:=ih (i + 1) (p + 1) (o ++ [v]) (by omega) (by simp; omega) (by omega) (by omega)
  refine ⟨r,q,g1,by omega,fun R L n m k hn hL hm => ?_⟩
  obtain _ | m:=m; omega
  have kd2':=kd2 R L n m k hn hL (by omega)
  rw [show ((i + 1:Nat):Int) = (i:Int) + 1 by omega] at kd2'
  have hc1:(i:Int) < w:=by omega
  subst ho
  clear ih kd2
  rw [rB]
  simp only [r7,Tryz.f86,SLM,simprocAttr]
  simp -implicitDefEqProofs (maxSteps:=2000000) (disch:=try exact Dz) only [↓DN,↓kAsg,↓kRet,UP,simprocAttr,↓aX,LA,hc1,↓kd,bX,eU,List.length_append,↓kd2',dO,tP,BR,yB,↓aK1,↓aJb]
theorem UD {c:List UInt8} (hc:c.length ≤ 2000) {al st i9:Int} {w:Nat} (hw:w ≤ 6) {cs:List D} {z:Nat}:∀ (j i:Nat) (p:Int) (o:List Int) (hi:i + j = w) (ho:o.length = i) (hp:0 ≤ p) (hp2:p + j ≤ 1000000000),
  ∃ (r:List Int) (q:Int),r.length = w ∧ q = p + j ∧ ∀ (R:Type) (L n m:Nat) (k:Exit → List A → H → Option R),2 ≤ n → 2 ^ 60 ≤ L → j < m →
  aO env (aA env L n) L 1 [0,0,0,0,0,0,0,0,0,0,0,0,0,0,0,0,0,0,0,0,0,0,0,0,0,0,0,0,0,0,0,0,0,0,0,0,0,1002] (U1 (Z1 (U1 (Z2 (Z1 (U4 (U2 (Z32 (Z4 (Z1 ([]))))))))))) (hZ 1) (Z1 (U1 (Z1 (U2 (U1 (Z4 (Z2 (U32 (U4 (U1 ([]))))))))))) m (.ptr 0 0 0 :: Y1 (.d (.int .i64 st) :: Y2 (Y1 (.ptr 1 0 0 :: .ptr 2 0 0 :: .d (.int .i64 w) :: .d (.int .i64 i9) :: .sl 3 0 0 i :: .d (.int .i64 ((i:Int))) :: Y32 (Y4 (Y1 ([]))))))) (rdO c p :: .box [.d (.int .i64 0),.sl 4 0 0 0,.sl 5 0 0 0] :: .box [.d (.int .i64 al),.sl 6 0 0 0,.sl 7 0 0 z] :: .arr (ints o) 1 0 :: .arr [] 0 0 :: .arr [] 0 0 :: .arr [] 0 0 :: .arr cs 0 0 :: []) k
  = k (.exit 2) (.ptr 0 0 0 :: Y1 (.d (.int .i64 st) :: Y2 (Y1 (.ptr 1 0 0 :: .ptr 2 0 0 :: .d (.int .i64 w) :: .d (.int .i64 i9) :: .sl 3 0 0 w :: .d (.int .i64 ((w:Int))) :: Y32 (Y4 (Y1 ([]))))))) (rdO c q :: .box [.d (.int .i64 0),.sl 4 0 0 0,.sl 5 0 0 0] :: .box [.d (.int .i64 al),.sl 6 0 0 0,.sl 7 0 0 z] :: .arr (ints r) 1 0 :: .arr [] 0 0 :: .arr [] 0 0 :: .arr [] 0 0 :: .arr cs 0 0 :: []):=by
 intro j
 induction j with
 | zero =>
  intro i p o hi ho hp hp2
  obtain rfl:i = w:=by omega
  refine ⟨o,p,ho,by omega,fun R L n m k hn hL hm => ?_⟩
  obtain _ | m:=m; omega
  subst ho
  rw [rB]
  simp only [r7,Tryz.f86,SLM,simprocAttr]
  simp -implicitDefEqProofs (maxSteps:=2000000) (disch:=try exact Dz) only [↓DN,↓kAsg,↓kRet,UP,simprocAttr,↓aX,LA,Int.lt_irrefl]
 | succ j ih =>
  intro i p o hi ho hp hp2
  obtain ⟨v,v0,v1,v2,kd⟩:=jE hc p st hp (by omega)
  obtain ⟨r,q,g1,g2,kd2⟩:=ih (i + 1) (p + 1) (o ++ [v]) (by omega) (by simp; omega) (by omega) (by omega)
  refine ⟨r,q,g1,by omega,fun R L n m k hn hL hm => ?_⟩
  obtain _ | m:=m; omega
  have kd2':=kd2 R L n m k hn hL (by omega)
  rw [show ((i + 1:Nat):Int) = (i:Int) + 1 by omega] at kd2'
  have hc1:(i:Int) < w:=by omega
  subst ho
  clear ih kd2
  rw [rB]
  simp only [r7,Tryz.f86,SLM,simprocAttr]
  simp -implicitDefEqProofs (maxSteps:=2000000) (disch:=try exact Dz) only [↓DN,↓kAsg,↓kRet,UP,simprocAttr,↓aX,LA,hc1,↓kd,bX,eU,List.length_append,↓kd2']
theorem aTA {m:List Bool} {s:List A} {y1 y2 x0 x1:D} {k z rl:Nat} {r:List Int} {cs:List D} {d:List (List Int)} {p:H} (hr:rl = r.length) (hl:d.length ≤ 4294967296):gc 1 m s (.box [.d y1,.d y2] :: .box [.d x0,.sl 4 0 0 0,.sl 5 0 0 0] :: .box [.d x1,.sl 6 1 0 k,.sl 7 1 0 z] :: .arr (ints r) 1 0 :: .arr [] 0 0 :: .arr [] 0 0 :: .vec (aB 8 d ++ [.sl 3 0 0 rl]) 1 1 :: .arr cs 1 1 :: (aI d ++ p)) = match box (tidy m s) with
  | .mk s1 => if idsL s1 = [0,1,2] then (s1,.box [.d y1,.d y2] :: .box [.d x0,.sl 3 0 0 0,.sl 4 0 0 0] :: .box [.d x1,.sl 5 0 0 k,.sl 6 0 0 z] :: .arr [] 0 0 :: .arr [] 0 0 :: .vec (aB 7 (d ++ [r]) ++ aG 0) 1 0 :: .arr cs 1 0 :: aI (d ++ [r])) else gcO 1 m s (.box [.d y1,.d y2] :: .box [.d x0,.sl 4 0 0 0,.sl 5 0 0 0] :: .box [.d x1,.sl 6 1 0 k,.sl 7 1 0 z] :: .arr (ints r) 1 0 :: .arr [] 0 0 :: .arr [] 0 0 :: .vec (aB 8 d ++ [.sl 3 0 0 rl]) 1 1 :: .arr cs 1 1 :: (aI d ++ p))
  | .no => ([],[]):=by
 have hn:aG 0 = []:=rfl
 subst hr
 rw [aTj hl,← O0,ID,hn,List.append_nil,Nat.add_comm 7]
 simp only [box]
 split
 ·rename_i hid
  rw [sS _ (by rw [hid]; intro i hi; simp at hi; rcases hi with rfl | rfl | rfl <;> rfl)]
 ·rfl
theorem x8 {l:List Bool} {b:Bool}:aH l ++ [.bool b] = aH (l ++ [b]):=by simp [aH]
theorem VX {c:List UInt8} (hc:c.length ≤ 2000) {al st:Int} {w s:Nat} (hw:w ≤ 6) (hst:st = s) (hs:s ≤ 100):∀ (j i:Nat) (p:Int) (d:List (List Int)) (bl:List Bool) (hi:i + j = s) (hd:d.length = i) (hbl:bl.length = i) (hrw:∀ r ∈ d,r.length = w) (hp:0 ≤ p) (hp2:p + 7 * j ≤ 1000000000),
  ∃ (d2:List (List Int)) (bl2:List Bool) (q:Int),d2.length = s ∧ bl2.length = s ∧ (∀ r ∈ d2,r.length = w) ∧ p ≤ q ∧ q ≤ p + 7 * j ∧ ∀ (R:Type) (L n m:Nat) (k:Exit → List A → H → Option R),2 ≤ n → 2 ^ 60 ≤ L → j < m →
  aO env (aA env L n) L 1 [0,0,0,0,0,0,0,0,0,0,0,0,0,0,0,0,0,0,0,0,0,0,0,0,0,0,0,0,0,0,0,0,0,0,0,0,0,1002] (U1 (Z1 (U1 (Z2 (Z1 (U4 (U2 (Z32 (Z4 (Z1 ([]))))))))))) (hZ 0) (Z1 (U1 (Z1 (U2 (U1 (Z4 (U32 (U4 (U2 (U1 ([]))))))))))) m (.ptr 0 0 0 :: Y1 (.d (.int .i64 st) :: Y2 (Y1 (.ptr 1 0 0 :: .ptr 2 0 0 :: .d (.int .i64 w) :: .d (.int .i64 ((i:Int))) :: Y32 (Y4 (Y2 (Y1 ([])))))))) (rdO c p :: .box [.d (.int .i64 0),.sl 3 0 0 0,.sl 4 0 0 0] :: .box [.d (.int .i64 al),.sl 5 0 0 (List.length d),.sl 6 0 0 (List.length bl)] :: .arr [] 0 0 :: .arr [] 0 0 :: .vec (aB 7 d ++ aG 0) 1 0 :: .arr (aH bl) 1 0 :: aI d) k
  = k (.exit 0) (.ptr 0 0 0 :: Y1 (.d (.int .i64 st) :: Y2 (Y1 (.ptr 1 0 0 :: .ptr 2 0 0 :: .d (.int .i64 w) :: .d (.int .i64 ((s:Int))) :: Y32 (Y4 (Y2 (Y1 ([])))))))) (rdO c q :: .box [.d (.int .i64 0),.sl 3 0 0 0,.sl 4 0 0 0] :: .box [.d (.int .i64 al),.sl 5 0 0 (List.length d2),.sl 6 0 0 (List.length bl2)] :: .arr [] 0 0 :: .arr [] 0 0 :: .vec (aB 7 d2 ++ aG 0) 1 0 :: .arr (aH bl2) 1 0 :: aI d2):=by
 intro j
 induction j with
 | zero =>
  intro i p d bl hi hd hbl hrw hp hp2
  obtain rfl:i = s:=by omega
  refine ⟨d,bl,p,hd,hbl,hrw,by omega,by omega,fun R L n m k hn hL hm => ?_⟩
  obtain _ | m:=m; omega
  have hdl:d.length ≤ 4294967296:=by omega
  subst hst
  rw [xH]
  simp only [wH,Tryz.f86,SLM,simprocAttr]
  simp -implicitDefEqProofs (maxSteps:=2000000) (disch:=try exact Dz) only [↓DN,↓kAsg,↓kRet,UP,simprocAttr,↓aX,LA,Int.lt_irrefl,↓aTo]
 | succ j ih =>
  intro i p d bl hi hd hbl hrw hp hp2
  have hdl:d.length ≤ 4294967296:=by omega
  obtain ⟨r,q,g1,g2,kd1⟩:=WQ hc (al:=al) (st:=st) (i9:=i) hw hdl (cs:=aH bl) (z:=bl.length) w 0 p [] (by omega) rfl hp (by omega)
  obtain ⟨v,v0,v1,v2,kd2⟩:=jE hc q 3 (by omega) (by omega)
  obtain ⟨d2,bl2,q2,e1,e2,e3,e4,e5,kd3⟩:=ih (i + 1) (q + 1) (d ++ [r]) (bl ++ [decide (0 < v)]) (by omega) (by simp; omega) (by simp; omega) (by
   intro x hx
   rcases List.mem_append.1 hx with hx | hx
   ·exact hrw x hx
   ·simp at hx; subst hx; exact g1) (by omega) (by omega)
  refine ⟨d2,bl2,q2,e1,e2,e3,by omega,by omega,fun R L n m k hn hL hm => ?_⟩
  obtain _ | m:=m; omega
  have kd3':=kd3 R L n m k hn hL (by omega)
  have loop_c:=fun {R:Type} {n:Nat} {k:Exit → List A → H → Option R} (hn:2 ≤ n) => kd1 R L n L k hn hL (by omega)
  rw [show ((i + 1:Nat):Int) = (i:Int) + 1 by omega] at kd3'
  simp only [Int.natCast_zero,qL,List.length_append,List.length_cons,List.length_nil,Nat.zero_add] at loop_c kd3'
  have hc1:(i:Int) < st:=by omega
  have g1':w = r.length:=g1.symm
  have ht:(aB 8 d ++ aG 0).take d.length = aB 8 d:=IT rfl
  have hlv:d.length ≤ (aB 8 d ++ aG 0).length:=by rw [List.length_append,jV]; omega
  obtain ⟨G2,hG2⟩:∃ G:H,G = (rdO c (q + 1) :: .box [.d (.int .i64 0),.sl 4 0 0 0,.sl 5 0 0 0] :: .box [.d (.int .i64 al),.sl 6 1 0 (d.length + 1),.sl 7 0 0 bl.length] :: .arr (ints r) 1 0 :: .arr [] 0 0 :: .arr [] 0 0 :: .vec (aB 8 d ++ [.sl 3 0 0 w]) 1 1 :: .arr (aH (bl ++ [decide (0 < v)])) 1 1 :: (aI d ++ .vec [.sl 3 0 0 w] 1 0 :: .arr [.bool (decide (0 < v))] 1 0 :: [])):=⟨_,rfl⟩
  have k2:G2[2]? = some (.box [.d (.int .i64 al),.sl 6 1 0 (d.length + 1),.sl 7 0 0 bl.length]):=by rw [hG2]; rfl
  have k3:G2[3]? = some (.arr (ints r) 1 0):=by rw [hG2]; rfl
  have k6:G2[6]? = some (.vec (aB 8 d ++ [.sl 3 0 0 w]) 1 1):=by rw [hG2]; rfl
  have k7:G2[7]? = some (.arr (aH (bl ++ [decide (0 < v)])) 1 1):=by rw [hG2]; rfl
  have ok3:Okay G2 3:=.mk _ _ k3 (by simp) (by rw [b6 k3]; simp)
  have ok7:Okay G2 7:=.mk _ _ k7 (by simp) (by rw [b6 k7]; simp)
  have ok6:Okay G2 6:=.mk _ _ k6 (by simp) (by
   intro y hy
   have:kids G2 6 = List.range' 8 d.length ++ [3]:=by simp [kids,k6,bZ,dB,idsL,idsA]
   rw [this,List.mem_append,List.mem_range'_1] at hy
   rcases hy with hy | hy
   ·obtain ⟨z,rfl⟩:∃ z,y = 8 + z:=⟨y - 8,by omega⟩
    have hz:z < d.length:=by omega
    have hr:G2[8 + z]? = some (.arr (ints d[z]) 1 0):=by
     rw [hG2,show 8 + z = z + 1 + 1 + 1 + 1 + 1 + 1 + 1 + 1 by omega]
     simp only [List.getElem?_cons_succ]
     exact JA (List.getElem?_eq_getElem hz)
    exact .mk _ _ hr (by simp) (by rw [b6 hr]; simp)
   ·simp at hy
    subst hy
    exact ok3)
  have ok2:Okay G2 2:=.mk _ _ k2 (by simp) (by
   intro y hy
   have:kids G2 2 = [6,7]:=by simp [kids,k2,idsL,idsA]
   rw [this] at hy
   simp at hy
   rcases hy with rfl | rfl
   ·exact ok6
   ·exact ok7)
  have wG2:2 + wgt G2 ≤ 1099511627776:=by
   have h1:=tS (aI d) [.vec [.sl 3 0 0 w] 1 0,.arr [.bool (decide (0 < v))] 1 0]
   rw [J5] at h1
   rw [hG2]
   simp only [wgt,idsL,idsA,bZ,dB,List.length_append,List.length_range',List.length_cons,List.length_nil] at h1 ⊢
   omega
  have st_sto:∀ {call:a7} {thaw:List Nat} {dst:Option Tmp} {x y:Operand},memD env call thaw dst (.store 24 x y) G2 [.ptr 2 0 2,.sl 7 1 0 (bl.length + 1)] = some (.d .undef,G2.set 2 (.box (bR [.d (.int .i64 al),.sl 6 1 0 (d.length + 1),.sl 7 0 0 bl.length] 2 [.sl 7 1 0 (bl.length + 1)])),{ ids:=aD aE G2 [2,7] [],ro:=false,wr:=aD aE G2 [2,7] [] }):=by
   intro call thaw dst x y
   exact xT (by kernel_rfl) (by kernel_rfl) k2 (by simp) ok2 ok7 wG2
  obtain ⟨o2,ho2⟩:∃ o,o = aD aE G2 [2,7] []:=⟨_,rfl⟩
  rw [← ho2] at st_sto
  rw [hG2] at st_sto
  simp only [List.set_cons_succ,List.set_cons_zero,bR,List.take_succ_cons,List.take_zero,List.cons_append,List.nil_append,List.length_cons,List.length_nil,List.drop_succ_cons,List.drop_zero,List.drop_nil,Nat.reduceAdd] at st_sto
  clear hG2 k2 k3 k6 k7 ok2 ok3 ok6 ok7 wG2 ho2 ih kd1 kd3
  subst hd
  generalize hbv:decide (0 < v) = b at *
  rw [xH]
  simp only [wH,Tryz.f86,SLM,simprocAttr]
  simp -implicitDefEqProofs (maxSteps:=2000000) (disch:=try exact Dz) only [↓DN,↓kAsg,↓kRet,UP,simprocAttr,↓aX,LA,hc1,hbv,↓loop_c,↓kd2,dO,jV,aGr,Nat.add_zero,Nat.le_refl,tP,BS,BR,ST,yB,aHr,Nat.sub_self,List.range'_zero,ht,dN,dS,wK,tE,eF,jF,x8,List.append_assoc,List.cons_append,List.nil_append,↓aSK,aJo,US,WC,U6,TG,↓st_sto,↓aTA,↓kd3']
theorem QX {c:List UInt8} (hc:c.length ≤ 2000) {al st:Int} {w s:Nat} (hw:w ≤ 6) (hst:st = s) (hs:s ≤ 100) (h1:1 ≤ s) (p:Int) (hp:0 ≤ p) (hp2:p + 7 * s ≤ 1000000000) :
  ∃ (d2:List (List Int)) (bl2:List Bool) (q:Int),d2.length = s ∧ bl2.length = s ∧ (∀ r ∈ d2,r.length = w) ∧ p ≤ q ∧ q ≤ p + 7 * s ∧ ∀ (R:Type) (L n m:Nat) (k:Exit → List A → H → Option R),2 ≤ n → 2 ^ 60 ≤ L → s < m →
  aO env (aA env L n) L 1 [0,0,0,0,0,0,0,0,0,0,0,0,0,0,0,0,0,0,0,0,0,0,0,0,0,0,0,0,0,0,0,0,0,0,0,0,0,1002] (U1 (Z1 (U1 (Z2 (Z1 (U4 (U2 (Z32 (Z4 (Z1 ([]))))))))))) (hZ 0) (Z1 (U1 (Z1 (U2 (U1 (Z4 (U32 (U4 (U2 (U1 ([]))))))))))) m (.ptr 0 0 0 :: Y1 (.d (.int .i64 st) :: Y2 (Y1 (.ptr 1 0 0 :: .ptr 2 0 0 :: .d (.int .i64 w) :: .d (.int .i64 0) :: Y32 (Y4 (Y2 (Y1 ([])))))))) (rdO c p :: .box [.d (.int .i64 0),.sl 3 0 0 0,.sl 4 0 0 0] :: .box [.d (.int .i64 al),.sl 5 0 0 0,.sl 6 0 0 0] :: .arr [] 0 0 :: .arr [] 0 0 :: .arr [] 0 0 :: .arr [] 0 0 :: []) k
  = k (.exit 0) (.ptr 0 0 0 :: Y1 (.d (.int .i64 st) :: Y2 (Y1 (.ptr 1 0 0 :: .ptr 2 0 0 :: .d (.int .i64 w) :: .d (.int .i64 ((s:Int))) :: Y32 (Y4 (Y2 (Y1 ([])))))))) (rdO c q :: .box [.d (.int .i64 0),.sl 3 0 0 0,.sl 4 0 0 0] :: .box [.d (.int .i64 al),.sl 5 0 0 (List.length d2),.sl 6 0 0 (List.length bl2)] :: .arr [] 0 0 :: .arr [] 0 0 :: .vec (aB 7 d2 ++ aG 0) 1 0 :: .arr (aH bl2) 1 0 :: aI d2):=by
 obtain ⟨j,hj⟩:∃ j,s = j + 1:=⟨s - 1,by omega⟩
 obtain ⟨r,q,g1,g2,kd1⟩:=UD hc (al:=al) (st:=st) (i9:=0) hw (cs:=[]) (z:=0) w 0 p [] (by omega) rfl hp (by omega)
 obtain ⟨v,v0,v1,v2,kd2⟩:=jE hc q 3 (by omega) (by omega)
 obtain ⟨d2,bl2,q2,e1,e2,e3,e4,e5,kd3⟩:=VX hc (al:=al) (st:=st) hw hst hs j 1 (q + 1) [r] [decide (0 < v)] (by omega) rfl rfl (by intro x hx; simp at hx; subst hx; exact g1) (by omega) (by omega)
 refine ⟨d2,bl2,q2,e1,e2,e3,by omega,by omega,fun R L n m k hn hL hm => ?_⟩
 obtain _ | m:=m; omega
 have kd3':=kd3 R L n m k hn hL (by omega)
 have loop_c:=fun {R:Type} {n:Nat} {k:Exit → List A → H → Option R} (hn:2 ≤ n) => kd1 R L n L k hn hL (by omega)
 simp only [Int.natCast_zero,qL] at loop_c
 have e7:aB 7 [r] ++ aG 0 = [.sl 7 0 0 r.length]:=rfl
 have e8:aI [r] = [.arr (ints r) 1 0]:=rfl
 have e9:aH [decide (0 < v)] = [.bool (decide (0 < v))]:=rfl
 rw [e7,e8,e9,g1] at kd3'
 simp only [List.length_cons,List.length_nil,Nat.zero_add,show ((1:Nat):Int) = 1 from rfl] at kd3'
 have hc1:(0:Int) < st:=by omega
 generalize hbv:decide (0 < v) = b at *
 clear kd1 kd3
 rw [xH]
 simp only [wH,Tryz.f86,SLM,simprocAttr]
 simp -implicitDefEqProofs (maxSteps:=2000000) (disch:=try exact Dz) only [↓DN,↓kAsg,↓kRet,UP,simprocAttr,↓aX,LA,hc1,hbv,↓loop_c,↓kd2,dN,dS,wK,tE,↓kd3']
theorem SY {c:List UInt8} (hc:c.length ≤ 2000) (al st:Int) {s:Nat} (hst:st = s) (hs:s ≤ 100) (h1:1 ≤ s) (p:Int) (hp:0 ≤ p) (hp2:p + 7 * s ≤ 1000000000) :
  ∃ (nx:List (List Int)) (ac:List Bool) (q:Int),nx.length = s ∧ ac.length = s ∧ (∀ r ∈ nx,r.length = (aC al).length) ∧ p ≤ q ∧ q ≤ p + 7 * s ∧ ∀ (L n:Nat),3 ≤ n → 2 ^ 60 ≤ L →
  aA env L n 86 [.ptr 0 0 0,.d (.int .i64 al),.d (.int .i64 st)] [rdO c p] = some (autA 1 al nx.length ac.length,rdO c q :: autO 1 nx ac):=by
 obtain ⟨nx,ac,q,g1,g2,g3,g4,g5,kd⟩:=QX hc (al:=al) (st:=st) (w:=(aC al).length) (eY al) hst hs h1 p hp hp2
 refine ⟨nx,ac,q,g1,g2,g3,g4,g5,fun L n hn hL => ?_⟩
 have loop_c:=fun {R:Type} {n:Nat} {k:Exit → List A → H → Option R} (hn:2 ≤ n) => kd R L n L k hn hL (by omega)
 have hnl:nx.length ≤ 4294967296:=by omega
 have hbl:(aH ac).length = ac.length:=eF
 unfold autA autO
 clear kd
 obtain _ | n:=n; omega
 rw [aG7]
 simp only [XG,Tryz.f86,SLM,simprocAttr]
 simp -implicitDefEqProofs (maxSteps:=2000000) (disch:=try exact Dz) only [↓DN,↓kAsg,↓kRet,UP,simprocAttr,↓aX,LA,hbl,↓loop_c,↓aNR,↓aMY,z0As,z0A,eq_self,aFO,aFP]
end Ev
end Go.Proofs.YtppdfjdfjfoddaaGreat
