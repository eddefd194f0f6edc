/-
  Words: what the functions on words give.
-/
import Derived.Test.YtejmccgfigiadaaGreatSortLayX
import Derived.Test.YtejmccgfigiadaaGreatMemD
import Derived.Test.YtejmccgfigiadaaGreatCopy
set_option linter.unusedSimpArgs false
set_option linter.unusedVariables false
set_option maxRecDepth 8000
set_option maxHeartbeats 4000000
namespace Go.Proofs.YtejmccgfigiadaaGreat
namespace Ev
section
variable {R:Type} {L n:Nat}
def ltr (b:UInt8):Int:=(b.toNat:Int) - 97
def cK (l:Int):UInt8:=UInt8.ofNat (97 + l).toNat
theorem aMK {b:UInt8}:IntKind.i64.wrap ((b.toNat:Int) - 97) = ltr b:=wC (by omega) (by have:=toNat_lt b; omega)
theorem aA6 {l:Int} (h0:0 ≤ l) (h:l ≤ 5):IntKind.u8.wrap (97 + l) = ((cK l).toNat:Int):=by
 rw [aN0 (by omega) (by omega)]
 unfold cK
 rw [UInt8.toNat_ofNat']
 omega
theorem aAZ (hn:1 ≤ n) (s:List UInt8) (i:Int) (h0:0 ≤ i) (h:i < s.length):aA env L n 164 [.d (.str s),nI i] [] = some (nI (ltr (s.getD i.toNat 0)),[]):=by
 obtain _ | n:=n; omega
 simp -implicitDefEqProofs (maxSteps:=2000000) (disch:=try exact Dz) only [↓DN,↓kAsg,↓kRet,UP,simprocAttr,↓Z9,aMK,aJh,aE1,Tryz.f164]
theorem OI:type_of% fun {L} s i h0 h => ks fun hn => @aAZ L _ hn s i h0 h:=fun {L} s i h0 h => ks fun hn => @aAZ L _ hn s i h0 h
theorem E8 (hn:1 ≤ n) (l:Int) (h0:0 ≤ l) (h:l ≤ 5):aA env L n 92 [nI l] [] = some (.d (.int .u8 (cK l).toNat),[]):=by
 have e:IntKind.u8.wrap (97 + l) = ((cK l).toNat:Int):=aA6 h0 h
 obtain _ | n:=n; omega
 simp -implicitDefEqProofs (maxSteps:=2000000) (disch:=try exact Dz) only [↓DN,↓kAsg,↓kRet,UP,simprocAttr,↓aAz,e,VZ,H5,Tryz.f92]
theorem GE:type_of% fun {L} l h0 h => ks fun hn => @E8 L _ hn l h0 h:=fun {L} l h0 h => ks fun hn => @E8 L _ hn l h0 h
def okB (b:UInt8):Bool:=QX (ltr b)
def eV (s:List UInt8):Bool:=decide (s.length ≤ 50000) && s.all okB
def upTo {α:Type} (p:α → Bool) (l:List α) (i:Nat):Int:=(i:Int) + ((l.drop i).takeWhile p).length
theorem aKy {α:Type} {p:α → Bool} {l:List α}:upTo p l l.length = l.length:=by
 unfold upTo; simp
theorem aI4 {α:Type} {p:α → Bool} {l:List α} {i:Nat} {d:α} (h:i < l.length) (hp:p (l.getD i d) = false):upTo p l i = i:=by
 unfold upTo
 rw [List.getD_eq_getElem?_getD,List.getElem?_eq_getElem h] at hp
 simp only [Option.getD_some] at hp
 rw [List.drop_eq_getElem_cons h,List.takeWhile_cons,hp]
 simp
theorem aMu {α:Type} {p:α → Bool} {l:List α} {i:Nat} {d:α} (h:i < l.length) (hp:p (l.getD i d) = true):upTo p l i = upTo p l (i + 1):=by
 unfold upTo
 rw [List.getD_eq_getElem?_getD,List.getElem?_eq_getElem h] at hp
 simp only [Option.getD_some] at hp
 rw [List.drop_eq_getElem_cons h,List.takeWhile_cons,hp]
 simp; omega
theorem aKM {α:Type} {p:α → Bool} {l:List α} {i:Nat} {d:α} (h:i < l.length) (hp:p (l.getD i d) = false):(l.drop i).all p = false:=by
 rw [List.getD_eq_getElem?_getD,List.getElem?_eq_getElem h] at hp
 simp only [Option.getD_some] at hp
 rw [List.drop_eq_getElem_cons h,List.all_cons,hp]
 rfl
theorem aNo {α:Type} {p:α → Bool} {l:List α} {i:Nat} {d:α} (h:i < l.length) (hp:p (l.getD i d) = true):(l.drop i).all p = (l.drop (i + 1)).all p:=by
 rw [List.getD_eq_getElem?_getD,List.getElem?_eq_getElem h] at hp
 simp only [Option.getD_some] at hp
 rw [List.drop_eq_getElem_cons h,List.all_cons,hp]
 rfl
theorem CO (hn:1 ≤ n) {s:List UInt8} (hs:s.length < 4294967296) {k:KE R}:∀ (i:Int) (m:Nat) (h0:0 ≤ i) (hi:i ≤ s.length) (hm:(s.length:Int) - i < m),
  aM env (aA env L n) L 0 [] Bz52 (mC 0) (Z1 (U1 (Z2 (U16 (U2 (U1 ([]))))))) m (.d (.str s) :: Y1 (.d (.bool false) :: nI i :: Y16 (Y2 (Y1 ([]))))) [] k
  = if (s.drop i.toNat).all okB then k (.exit 0) (.d (.str s) :: Y1 (.d (.bool false) :: nI (upTo okB s i.toNat) :: Y16 (Y2 (Y1 ([]))))) [] else k .ret (.d (.str s) :: Y1 (.d (.bool false) :: nI (upTo okB s i.toNat) :: Y16 (Y2 (Y1 ([]))))) []:=by
 intro i m h0 hi hm
 obtain ⟨j,hj⟩:∃ j:Nat,(j:Int) = (s.length:Int) - i:=⟨((s.length:Int) - i).toNat,by omega⟩
 induction j generalizing i m with
 | zero =>
  obtain _ | m:=m; omega
  obtain rfl:i = s.length:=by omega
  simp -implicitDefEqProofs (maxSteps:=2000000) (disch:=try exact Dz) only [↓DN,↓kRet,UP,simprocAttr,Int.lt_irrefl,kR,kT,Tryz.f161]
  simp only [List.drop_length,List.all_nil,if_true,aKy]
 | succ j ih =>
  obtain _ | m:=m; omega
  have hc:i < s.length:=by omega
  have hk:i.toNat < s.length:=by omega
  have e1:(i + 1).toNat = i.toNat + 1:=by omega
  cases hb:okB (s.getD i.toNat 0) with
  | true =>
   have hb':=hb
   unfold okB QX at hb'
   simp only [decide_eq_true_eq] at hb'
   have n1:¬ ltr (s.getD i.toNat 0) < 0:=by omega
   have n2:¬ 6 ≤ ltr (s.getD i.toNat 0):=by omega
   simp -implicitDefEqProofs (maxSteps:=2000000) (disch:=try exact Dz) only [↓DN,↓kRet,UP,simprocAttr,hc,↓OI,n1,n2,↓ih,kR,kT,Tryz.f161]
   rw [e1,aNo hk hb,aMu hk hb]
  | false =>
   have hb':=hb
   unfold okB QX at hb'
   simp only [decide_eq_false_iff_not] at hb'
   rw [aKM hk hb,aI4 hk hb]
   by_cases n1:ltr (s.getD i.toNat 0) < 0
   ·simp -implicitDefEqProofs (maxSteps:=2000000) (disch:=try exact Dz) only [↓DN,↓kAsg,↓kRet,UP,simprocAttr,hc,↓OI,n1,kR,kT,Tryz.f161]
    rw [Int.toNat_of_nonneg h0]
   ·have n2:6 ≤ ltr (s.getD i.toNat 0):=by omega
    simp -implicitDefEqProofs (maxSteps:=2000000) (disch:=try exact Dz) only [↓DN,↓kAsg,↓kRet,UP,simprocAttr,hc,↓OI,n1,n2,kR,kT,Tryz.f161]
    rw [Int.toNat_of_nonneg h0]
theorem HQ (hn:2 ≤ n) (s:List UInt8) (hL:2 ^ 60 ≤ L):aA env L n 161 [.d (.str s)] [] = some (.d (.bool (eV s)),[]):=by
 unfold eV
 by_cases hs:s.length ≤ 50000
 ·have hs':¬ (50000:Int) < s.length:=by omega
  cases ha:s.all okB with
  | true =>
   obtain _ | n:=n; omega
   simp -implicitDefEqProofs (maxSteps:=2000000) (disch:=try exact Dz) only [↓DN,↓kAsg,↓kRet,UP,simprocAttr,hs',↓CO,ha,xJ,sT,Tryz.f161]
   simp [hs]
  | false =>
   obtain _ | n:=n; omega
   simp -implicitDefEqProofs (maxSteps:=2000000) (disch:=try exact Dz) only [↓DN,↓kAsg,↓kRet,UP,simprocAttr,hs',↓CO,ha,xJ,sT,Tryz.f161]
   all_goals simp
 ·have hs':(50000:Int) < s.length:=by omega
  obtain _ | n:=n; omega
  simp -implicitDefEqProofs (maxSteps:=2000000) (disch:=try exact Dz) only [↓DN,↓kAsg,↓kRet,UP,simprocAttr,hs',xJ,sT,Tryz.f161]
  simp [hs]
theorem xA:type_of% fun {L} s hL => ks fun hn => @HQ L _ hn s hL:=fun {L} s hL => ks fun hn => @HQ L _ hn s hL
def inB (a:Int) (b:UInt8):Bool:=okB b && e6 a (ltr b)
def vA (a:Int) (s:List UInt8):Bool:=jY a && decide (s.length ≤ 50000) && s.all (inB a)
end
theorem b5 {R:Type} {call:aW} {h:H} {f:FuncId} {args:List A} {c:List UInt8} {p q:Int} {r:A} {k:KA R} (hm:(env.hint f).mode = 0) (ha:idsL args = []) (hr:idsA r = []) (he:call f (.ptr 0 0 0 :: args) [rdO c p] = some (r,[rdO c q])) :
  aY env call (rdO c p :: h) f (.ptr 0 0 0 :: args) k = k r (rdO c q :: h):=by
 have hid:idsL (A.ptr 0 0 0 :: args) = [0]:=by simp [idsL,idsA,ha]
 have hre:aD aG (rdO c p :: h) [0] [] = [0]:=rfl
 have hpk:pack (rdO c p :: h) [0] = [rdO c p]:=rfl
 have hma:aE (aI [0]) (A.ptr 0 0 0 :: args) = A.ptr 0 0 0 :: args:=by
  simp only [aE,gE _ ha]; rfl
 unfold aY
 rw [hid,hre,hpk,hma]
 have hc:bV call env.hint [rdO c p] f (.ptr 0 0 0 :: args) = some (r,[rdO c q]):=by
  unfold bV; rw [hm]; exact he
 rw [hc]
 have hcl:closed (rdO c p :: h) [0] [0] = true:=rfl
 simp only [List.length_cons,List.length_nil,Nat.le_refl,hcl,and_self,if_true,pK r hr]
 congr 1
 simp [bJ,mapO,aE,mapA]
theorem ZG:(env.hint 73).mode = 0:=kr
theorem aHk {a b:Int} (ha:0 ≤ a) (ha2:a < 2 ^ 62) (hb:0 ≤ b) (hb2:b < 2 ^ 62):0 ≤ iXor .i64 a b ∧ iXor .i64 a b < 2 ^ 62:=by
 obtain ⟨m,rfl⟩:=Int.eq_ofNat_of_zero_le ha
 obtain ⟨n,rfl⟩:=Int.eq_ofNat_of_zero_le hb
 have hm:m < 2 ^ 62:=by omega
 have hn:n < 2 ^ 62:=by omega
 have hx:(BitVec.ofInt 64 (m:Int) ^^^ BitVec.ofInt 64 (n:Int)).toNat = m ^^^ n:=by
  rw [BitVec.toNat_xor]
  congr 1 <;> (simp only [BitVec.ofInt_natCast,BitVec.toNat_ofNat]; omega)
 have hlt:m ^^^ n < 2 ^ 62:=Nat.xor_lt_two_pow hm hn
 unfold iXor
 have:(BitVec.ofInt IntKind.i64.bits (m:Int) ^^^ BitVec.ofInt IntKind.i64.bits (n:Int)).toNat = m ^^^ n:=hx
 rw [this,wC (by omega) (by omega)]
 omega
theorem eI {c:List UInt8} (hc:c.length ≤ 2000) (p b:Int) (hp:0 ≤ p) (hp2:p ≤ 1000000000):∃ v:Int,0 ≤ v ∧ (1 ≤ b → v < b) ∧ (b < 1 → v = 0) ∧ (Dw 1 73 [nI b] (nI v) c p (p + 1)):=by
 by_cases h1:b < 1
 ·refine ⟨0,by omega,by omega,by omega,fun R L n hq k hn hL => b5 ZG rfl rfl ?_⟩
  obtain _ | n:=n; omega
  simp -implicitDefEqProofs (maxSteps:=2000000) (disch:=try exact Dz) only [↓DN,↓kAsg,↓kRet,UP,simprocAttr,h1,pB,mB,Tryz.f73]
 ·by_cases h2:c.length = 0
  ·refine ⟨0,by omega,by omega,by omega,fun R L n hq k hn hL => b5 ZG rfl rfl ?_⟩
   have h2':(c.length:Int) = 0:=by omega
   obtain _ | n:=n; omega
   simp -implicitDefEqProofs (maxSteps:=2000000) (disch:=try exact Dz) only [↓DN,↓kAsg,↓kRet,UP,simprocAttr,h1,h2',pB,mB,Tryz.f73]
  ·have h2':¬ (c.length:Int) = 0:=by omega
   by_cases h3:p < c.length
   ·have hb:b ≠ 0:=by omega
    have t0:0 ≤ ((c.getD p.toNat 0).toNat:Int).tmod b:=Int.tmod_nonneg b (by omega)
    have t1:((c.getD p.toNat 0).toNat:Int).tmod b < b:=Int.tmod_lt_of_pos _ (by omega)
    refine ⟨((c.getD p.toNat 0).toNat:Int).tmod b,t0,fun _ => t1,by omega,fun R L n hq k hn hL => b5 ZG rfl rfl ?_⟩
    have e1:p + 1 - 1 = p:=by omega
    obtain _ | n:=n; omega
    simp -implicitDefEqProofs (maxSteps:=2000000) (disch:=try exact Dz) only [↓DN,↓kAsg,↓kRet,UP,simprocAttr,h1,h2',e1,h3,pB,mB,Tryz.f73]
   ·have e1:p + 1 - 1 = p:=by omega
    have hl1:(0:Int) < c.length:=by omega
    have q1:0 ≤ p.tmod c.length:=Int.tmod_nonneg _ hp
    have q2:p.tmod c.length < c.length:=Int.tmod_lt_of_pos _ hl1
    have q3:0 ≤ (p * 7 + 3).tmod c.length:=Int.tmod_nonneg _ (by omega)
    have q4:(p * 7 + 3).tmod c.length < c.length:=Int.tmod_lt_of_pos _ hl1
    have q5:0 ≤ p.tdiv c.length:=Int.tdiv_nonneg hp (by omega)
    have q6:p.tdiv c.length ≤ p:=Int.tdiv_le_self _ hp
    have b1:=toNat_lt (c.getD (p.tmod c.length).toNat 0)
    have b2:=toNat_lt (c.getD ((p * 7 + 3).tmod c.length).toNat 0)
    have r1:(p.tmod c.length).toNat < c.length:=by omega
    have r2:((p * 7 + 3).tmod c.length).toNat < c.length:=by omega
    obtain ⟨x,hx⟩:∃ x:Int,x = ((c.getD (p.tmod c.length).toNat 0).toNat:Int) * 131 + ((c.getD ((p * 7 + 3).tmod c.length).toNat 0).toNat:Int) * 1117 + p * 29 + p.tdiv c.length * 53:=⟨_,rfl⟩
    have x0:0 ≤ x:=by omega
    have x1:x < 2 ^ 62:=by omega
    have y0:0 ≤ x.tdiv 64:=Int.tdiv_nonneg x0 (by omega)
    have y1:x.tdiv 64 < 2 ^ 62:=by have:=Int.tdiv_le_self 64 x0; omega
    have z:=aHk x0 x1 y0 y1
    have hb:b ≠ 0:=by omega
    have t0:0 ≤ (iXor .i64 x (x.tdiv 64)).tmod b:=Int.tmod_nonneg b z.1
    have t1:(iXor .i64 x (x.tdiv 64)).tmod b < b:=Int.tmod_lt_of_pos _ (by omega)
    refine ⟨(iXor .i64 x (x.tdiv 64)).tmod b,t0,fun _ => t1,by omega,fun R L n hq k hn hL => b5 ZG rfl rfl ?_⟩
    clear b1 b2 z t0 t1
    have b1:=toNat_lt (c.getD (p.tmod c.length).toNat 0)
    have b2:=toNat_lt (c.getD ((p * 7 + 3).tmod c.length).toNat 0)
    subst hx
    obtain _ | n:=n; omega
    simp -implicitDefEqProofs (maxSteps:=2000000) (disch:=try exact Dz) only [↓DN,↓kAsg,↓kRet,UP,simprocAttr,h1,h2',e1,h3,pB,mB,Tryz.f73]
theorem aN2:(env.hint 104).mode = 0:=kr
theorem m_of:(env.hint 113).mode = 0:=kr
theorem aJ4 {R:Type} {call:aW} {hq:H} {f:FuncId} {c:List UInt8} {p q:Int} {r:A} {k:KA R} {cs:List D} {e g n id:Nat} (hi:hq[id]? = some (.arr cs e g)) (hm:(env.hint f).mode = 0) (hr:idsA r = []) (he:call f [.ptr 0 0 0,.sl 1 g 0 n] [rdO c p,.arr cs e g] = some (r,[rdO c q,.arr cs e g])) :
  aY env call (rdO c p :: hq) f [.ptr 0 0 0,.sl (id + 1) g 0 n] k = k r (rdO c q :: hq):=by
 have hlk:(rdO c p :: hq)[id + 1]? = some (.arr cs e g):=by rw [List.getElem?_cons_succ]; exact hi
 have hre:aD aG (rdO c p :: hq) [0,id + 1] [] = [0,id + 1]:=by
  have e1:aD aG (rdO c p :: hq) [0,id + 1] [] = aD (aG - 1) (rdO c p :: hq) [id + 1] [0]:=rfl
  have e2:aD (aG - 1) (rdO c p :: hq) [id + 1] [0] = if [0].contains (id + 1) = true then aD (aG - 2) (rdO c p :: hq) [] [0] else match (rdO c p :: hq)[id + 1]? with
   | some (.box cs) => aD (aG - 2) (rdO c p :: hq) ([] ++ idsL cs) ([0] ++ [id + 1])
   | some (.vec cs _ _) => aD (aG - 2) (rdO c p :: hq) ([] ++ idsL cs) ([0] ++ [id + 1])
   | some .void => aD (aG - 2) (rdO c p :: hq) [] [0]
   | some _ => aD (aG - 2) (rdO c p :: hq) [] ([0] ++ [id + 1])
   | none => aD (aG - 2) (rdO c p :: hq) [] [0]:=rfl
  have e3:[0].contains (id + 1) = false:=by simp
  rw [e1,e2,e3,hlk]
  rfl
 have hpk:pack (rdO c p :: hq) [0,id + 1] = [rdO c p,.arr cs e g]:=by
  simp only [pack,List.map_cons,List.map_nil,List.getD_eq_getElem?_getD,hlk]
  rfl
 unfold aY
 have hid:idsL [A.ptr 0 0 0,A.sl (id + 1) g 0 n] = [0,id + 1]:=rfl
 rw [hid,hre,hpk]
 have hma:aE (aI [0,id + 1]) [A.ptr 0 0 0,A.sl (id + 1) g 0 n] = [A.ptr 0 0 0,A.sl 1 g 0 n]:=by
  simp [aE,mapA,aI]
 rw [hma]
 have hc:bV call env.hint [rdO c p,.arr cs e g] f [.ptr 0 0 0,.sl 1 g 0 n] = some (r,[rdO c q,.arr cs e g]):=by
  unfold bV; rw [hm]; exact he
 rw [hc]
 have hcl:closed (rdO c p :: hq) [0,id + 1] [0,id + 1] = true:=by
  simp only [closed,List.all_cons,List.all_nil,hlk,List.getElem?_cons_zero]
  simp [idsL,idsA]
 simp only [List.length_cons,List.length_nil,Nat.le_refl,hcl,and_self,if_true,pK r hr]
 congr 1
 simp only [bJ,mapO,aE,mapA,List.map_nil,List.append_nil,List.set_cons_zero,List.set_cons_succ]
 congr 1
 exact aMB hi
theorem TM {α:Type} {l:List α} {k:Nat} {d:α} (h:k < l.length):l.getD k d ∈ l:=by
 rw [List.getD_eq_getElem?_getD,List.getElem?_eq_getElem h]; exact List.getElem_mem h
theorem aND {c:List UInt8} (hc:c.length ≤ 2000) (l:List Int) (g:Nat) (hl:0 < l.length) (hl2:l.length < 1000) (p:Int) (hp:0 ≤ p) (hp2:p ≤ 1000000000):∃ v:Int,v ∈ l ∧ ∀ (L n:Nat),2 ≤ n → 2 ^ 60 ≤ L → aA env L n 104 [.ptr 0 0 0,.sl 1 g 0 l.length] [rdO c p,.arr (ints l) 1 g] = some (nI v,[rdO c (p + 1),.arr (ints l) 1 g]):=by
 obtain ⟨v,v0,v1,_,kd⟩:=eI hc p l.length hp hp2
 have v1:=v1 (by omega)
 have hk:v.toNat < l.length:=by omega
 refine ⟨l.getD v.toNat 0,TM hk,fun L n hn hL => ?_⟩
 obtain _ | n:=n; omega
 simp -implicitDefEqProofs (maxSteps:=2000000) (disch:=try exact Dz) only [↓DN,↓kAsg,↓kRet,UP,simprocAttr,↓kd,aAB,LI,Tryz.f104]
theorem vG {c:List UInt8} (hc:c.length ≤ 2000) (l:List Int) (hl:0 < l.length) (hl2:l.length < 1000) (p:Int) (hp:0 ≤ p) (hp2:p ≤ 1000000000):∃ v:Int,v ∈ l ∧ (∀ (R:Type) (L n id:Nat) (hq:H) (k:KA R),2 ≤ n → 2 ^ 60 ≤ L → hq[id]? = some (.arr (ints l) 1 0) → aY env (aA env L n) (rdO c p :: hq) 104 [.ptr 0 0 0,.sl (id + 1) 0 0 l.length] k = k (nI v) (rdO c (p + 1) :: hq)):=by
 obtain ⟨v,hv,he⟩:=aND hc l 0 hl hl2 p hp hp2
 exact ⟨v,hv,fun R L n id hq k hn hL hi => aJ4 hi aN2 rfl (he L n hn hL)⟩
def aL (l:List (List UInt8)):List D:=l.map .str
theorem d7 {l:List (List UInt8)}:(aL l).length = l.length:=by simp [aL]
theorem JO {l:List (List UInt8)} {k:Nat} (h:k < l.length):(((aL l).drop k).map A.d).head? = some (.d (.str (l.getD k []))):=by
 rw [List.head?_map,List.head?_drop,aL,List.getElem?_map,List.getD_eq_getElem?_getD,List.getElem?_eq_getElem h]
 rfl
theorem aNM {c:List UInt8} (hc:c.length ≤ 2000) (l:List (List UInt8)) (hl:0 < l.length) (hl2:l.length < 1000) (p:Int) (hp:0 ≤ p) (hp2:p ≤ 1000000000):∃ v:List UInt8,v ∈ l ∧ (Dw 2 113 [.d (.ivs l.length (aL l))] (.d (.str v)) c p (p + 1)):=by
 obtain ⟨v,v0,v1,_,kd⟩:=eI hc p l.length hp hp2
 have v1:=v1 (by omega)
 have hk:v.toNat < l.length:=by omega
 refine ⟨l.getD v.toNat [],TM hk,fun R L n hq k hn hL => b5 m_of rfl rfl ?_⟩
 obtain _ | n:=n; omega
 simp -implicitDefEqProofs (maxSteps:=2000000) (disch:=try exact Dz) only [↓DN,↓kAsg,↓kRet,UP,simprocAttr,↓kd,d7,JO,aCE,O3,Tryz.f113]
theorem U9 {R:Type} {L n:Nat} (hn:1 ≤ n) {a:Int} {k:KE R}:∀ (i:Int) (m:Nat) (l:List Int) (len:Nat) (h0:0 ≤ i) (hi:i ≤ 6) (hm:6 - i < m) (hl:len = l.length) (hlen:(l.length:Int) ≤ i),
  aM env (aA env L n) L 0 [] Bz45 (mA 0) (Z1 (U1 (Z2 (Z1 (U8 (U4 (U1 ([])))))))) m (nI a :: Y1 (.d .nils :: .sl 0 0 0 len :: nI i :: Y8 (Y4 (Y1 ([]))))) [.arr (ints l) 1 0] k
  = k (.exit 0) (nI a :: Y1 (.d .nils :: .sl 0 0 0 (len + ((oZ (6 - i).toNat).filter (e6 a)).length) :: nI 6 :: Y8 (Y4 (Y1 ([]))))) [.arr (ints (l ++ (oZ (6 - i).toNat).filter (e6 a))) 1 0]:=by
 intro i m l len h0 hi hm hl hlen
 obtain ⟨j,hj⟩:∃ j:Nat,(j:Int) = (6:Int) - i:=⟨((6:Int) - i).toNat,by omega⟩
 induction j generalizing i m l len with
 | zero =>
  obtain _ | m:=m; omega
  obtain rfl:i = 6:=by omega
  simp -implicitDefEqProofs (maxSteps:=2000000) (disch:=try exact Dz) only [↓DN,↓kRet,UP,simprocAttr,qF,oX,Tryz.f83]
  simp only [oZ,List.filter_nil,List.append_nil,List.length_nil,Nat.add_zero]
 | succ j ih =>
  obtain _ | m:=m; omega
  have hc:i < 6:=by omega
  have e1:(6 - i).toNat = j + 1:=by omega
  have e2:(6 - (i + 1)).toNat = j:=by omega
  have hr:oZ (j + 1) = i :: oZ j:=by simp only [oZ]; congr 1; omega
  rw [e1,hr,List.filter_cons]
  cases hb:e6 a i with
  | true =>
   simp -implicitDefEqProofs (maxSteps:=2000000) (disch:=try exact Dz) only [↓DN,↓kRet,UP,simprocAttr,↓rI,↓ih,hc,hb,e2,qF,oX,Tryz.f83]
   simp only [List.append_assoc,List.cons_append,List.nil_append,Nat.add_assoc,Nat.add_comm 1]
  | false =>
   simp -implicitDefEqProofs (maxSteps:=2000000) (disch:=try exact Dz) only [↓DN,↓kRet,UP,simprocAttr,↓rI,↓ih,hc,hb,e2,qF,oX,Tryz.f83]
theorem aNl:oZ (6 - (0:Int)).toNat = [0,1,2,3,4,5]:=rfl
theorem IL {L n:Nat} (hn:2 ≤ n) (a:Int) (hL:2 ^ 60 ≤ L):aA env L n 83 [nI a] [] = some (.d (.ivs (aB a).length (ints (aB a))),[]):=by
 unfold aB
 rw [← aNl]
 obtain _ | n:=n; omega
 simp -implicitDefEqProofs (maxSteps:=2000000) (disch:=try exact Dz) only [↓DN,↓kAsg,↓kRet,UP,simprocAttr,aKR,↓U9,aAl,LW,Tryz.f83]
theorem fS:type_of% fun {L} a hL => ks fun hn => @IL L _ hn a hL:=fun {L} a hL => ks fun hn => @IL L _ hn a hL
theorem SA {L n:Nat} (hn:1 ≤ n) (l:Int) (h0:0 ≤ l) (h:l ≤ 5):aA env L n 88 [nI l] [] = some (.d (.str [cK l]),[]):=by
 have e:IntKind.u8.wrap (97 + l) = ((cK l).toNat:Int):=aA6 h0 h
 have e2:[D.int .u8 ((cK l).toNat:Int)] = bI [cK l]:=rfl
 obtain _ | n:=n; omega
 simp -implicitDefEqProofs (maxSteps:=2000000) (disch:=try exact Dz) only [↓DN,↓kAsg,↓kRet,UP,simprocAttr,e,e2,↓IK,aGd,WN,Tryz.f88]
theorem GN:type_of% fun {L} l h0 h => ks fun hn => @SA L _ hn l h0 h:=fun {L} l h0 h => ks fun hn => @SA L _ hn l h0 h
theorem OT {c:List UInt8} (hc:c.length ≤ 2000) {al st i9:Int} {w:Nat} (hw:w ≤ 6) {d:List (List Int)} (hdl:d.length ≤ 4294967296) {cs:List D} {z:Nat}:∀ (j i:Nat) (p:Int) (o:List Int) (hi:i + j = w) (ho:o.length = i) (hp:0 ≤ p) (hp2:p + j ≤ 1000000000),
  ∃ (r:List Int) (q:Int),r.length = w ∧ q = p + j ∧ ∀ (R:Type) (L n m:Nat) (k:KE R),2 ≤ n → 2 ^ 60 ≤ L → j < m →
  aM env (aA env L n) L 1 (W32 (W4 (W1 [1002]))) Bz5 (d9 1) Bz30 m (.ptr 0 0 0 :: Y1 (nI st :: Y2 (Y1 (.ptr 1 0 0 :: .ptr 2 0 0 :: nI w :: nI i9 :: .sl 3 0 0 i :: nI i :: Y32 (Y4 (Y1 ([]))))))) (rdO c p :: .box [nI 0,.sl 4 0 0 0,.sl 5 0 0 0] :: .box [nI al,.sl 6 0 0 d.length,.sl 7 0 0 z] :: .arr (ints o) 1 0 :: .arr [] 0 0 :: .arr [] 0 0 :: .vec (aC 8 d ++ aF 0) 1 0 :: .arr cs 1 0 :: aH d) k
  = k (.exit 2) (.ptr 0 0 0 :: Y1 (nI st :: Y2 (Y1 (.ptr 1 0 0 :: .ptr 2 0 0 :: nI w :: nI i9 :: .sl 3 0 0 w :: nI w :: Y32 (Y4 (Y1 ([]))))))) (rdO c q :: .box [nI 0,.sl 4 0 0 0,.sl 5 0 0 0] :: .box [nI al,.sl 6 0 0 d.length,.sl 7 0 0 z] :: .arr (ints r) 1 0 :: .arr [] 0 0 :: .arr [] 0 0 :: .vec (aC 8 d ++ aF 0) 1 0 :: .arr cs 1 0 :: aH d):=by
 intro j
 induction j with
 | zero =>
  intro i p o hi ho hp hp2
  obtain rfl:i = w:=by omega
  refine ⟨o,p,ho,by omega,fun R L n m k hn hL hm => ?_⟩
  obtain _ | m:=m; omega
  subst ho
  simp -implicitDefEqProofs (maxSteps:=2000000) (disch:=try exact Dz) only [↓DN,↓kRet,UP,simprocAttr,Int.lt_irrefl,↓aKz,lJ,mG,Tryz.f103]
 | succ j ih =>
  intro i p o hi ho hp hp2
  obtain ⟨v,v0,v1,v2,kd⟩:=eI hc p st hp (by omega)
  obtain ⟨r,q,g1,g2,kd2⟩:=ih (i + 1) (p + 1) (o ++ [v]) (by omega) (by simp; omega) (by omega) (by omega)
  refine ⟨r,q,g1,by omega,fun R L n m k hn hL hm => ?_⟩
  obtain _ | m:=m; omega
  have kd2':=kd2 R L n m k hn hL (by omega)
  rw [cs1 i] at kd2'
  have hc1:(i:Int) < w:=by omega
  subst ho
  clear ih kd2
  simp -implicitDefEqProofs (maxSteps:=2000000) (disch:=try exact Dz) only [↓DN,↓kRet,UP,simprocAttr,hc1,↓kd,↓kd2',cB,sJ,↓aMQ,lJ,mG,Tryz.f103]
theorem L9 {c:List UInt8} (hc:c.length ≤ 2000) {al st i9:Int} {w:Nat} (hw:w ≤ 6) {cs:List D} {z:Nat}:∀ (j i:Nat) (p:Int) (o:List Int) (hi:i + j = w) (ho:o.length = i) (hp:0 ≤ p) (hp2:p + j ≤ 1000000000),
  ∃ (r:List Int) (q:Int),r.length = w ∧ q = p + j ∧ ∀ (R:Type) (L n m:Nat) (k:KE R),2 ≤ n → 2 ^ 60 ≤ L → j < m →
  aM env (aA env L n) L 1 (W32 (W4 (W1 [1002]))) Bz5 (d9 1) Bz30 m (.ptr 0 0 0 :: Y1 (nI st :: Y2 (Y1 (.ptr 1 0 0 :: .ptr 2 0 0 :: nI w :: nI i9 :: .sl 3 0 0 i :: nI i :: Y32 (Y4 (Y1 ([]))))))) (rdO c p :: .box [nI 0,.sl 4 0 0 0,.sl 5 0 0 0] :: .box [nI al,.sl 6 0 0 0,.sl 7 0 0 z] :: .arr (ints o) 1 0 :: .arr [] 0 0 :: .arr [] 0 0 :: .arr [] 0 0 :: .arr cs 0 0 :: []) k
  = k (.exit 2) (.ptr 0 0 0 :: Y1 (nI st :: Y2 (Y1 (.ptr 1 0 0 :: .ptr 2 0 0 :: nI w :: nI i9 :: .sl 3 0 0 w :: nI w :: Y32 (Y4 (Y1 ([]))))))) (rdO c q :: .box [nI 0,.sl 4 0 0 0,.sl 5 0 0 0] :: .box [nI al,.sl 6 0 0 0,.sl 7 0 0 z] :: .arr (ints r) 1 0 :: .arr [] 0 0 :: .arr [] 0 0 :: .arr [] 0 0 :: .arr cs 0 0 :: []):=by
 intro j
 induction j with
 | zero =>
  intro i p o hi ho hp hp2
  obtain rfl:i = w:=by omega
  refine ⟨o,p,ho,by omega,fun R L n m k hn hL hm => ?_⟩
  obtain _ | m:=m; omega
  subst ho
  simp -implicitDefEqProofs (maxSteps:=2000000) (disch:=try exact Dz) only [↓DN,↓kRet,UP,simprocAttr,Int.lt_irrefl,lJ,mG,Tryz.f103]
 | succ j ih =>
  intro i p o hi ho hp hp2
  obtain ⟨v,v0,v1,v2,kd⟩:=eI hc p st hp (by omega)
  obtain ⟨r,q,g1,g2,kd2⟩:=ih (i + 1) (p + 1) (o ++ [v]) (by omega) (by simp; omega) (by omega) (by omega)
  refine ⟨r,q,g1,by omega,fun R L n m k hn hL hm => ?_⟩
  obtain _ | m:=m; omega
  have kd2':=kd2 R L n m k hn hL (by omega)
  rw [cs1 i] at kd2'
  have hc1:(i:Int) < w:=by omega
  subst ho
  clear ih kd2
  simp -implicitDefEqProofs (maxSteps:=2000000) (disch:=try exact Dz) only [↓DN,↓kRet,UP,simprocAttr,hc1,↓kd,↓kd2',lJ,mG,Tryz.f103]
theorem aNe {m:List Bool} {s:List A} {y1 y2 x0 x1:D} {k z rl:Nat} {r:List Int} {cs:List D} {d:List (List Int)} {p:H} (hr:rl = r.length) (hl:d.length ≤ 4294967296):gc 1 m s (.box [.d y1,.d y2] :: .box [.d x0,.sl 4 0 0 0,.sl 5 0 0 0] :: .box [.d x1,.sl 6 1 0 k,.sl 7 1 0 z] :: .arr (ints r) 1 0 :: .arr [] 0 0 :: .arr [] 0 0 :: .vec (aC 8 d ++ [.sl 3 0 0 rl]) 1 1 :: .arr cs 1 1 :: (aH d ++ p)) = match box (tidy m s) with
  | .mk s1 => if idsL s1 = [0,1,2] then (s1,.box [.d y1,.d y2] :: .box [.d x0,.sl 3 0 0 0,.sl 4 0 0 0] :: .box [.d x1,.sl 5 0 0 k,.sl 6 0 0 z] :: .arr [] 0 0 :: .arr [] 0 0 :: .vec (aC 7 (d ++ [r]) ++ aF 0) 1 0 :: .arr cs 1 0 :: aH (d ++ [r])) else gcO 1 m s (.box [.d y1,.d y2] :: .box [.d x0,.sl 4 0 0 0,.sl 5 0 0 0] :: .box [.d x1,.sl 6 1 0 k,.sl 7 1 0 z] :: .arr (ints r) 1 0 :: .arr [] 0 0 :: .arr [] 0 0 :: .vec (aC 8 d ++ [.sl 3 0 0 rl]) 1 1 :: .arr cs 1 1 :: (aH d ++ p))
  | .no => ([],[]):=by
 have hn:aF 0 = []:=rfl
 subst hr
 rw [aMT hl,← G7,AZ,hn,List.append_nil,Nat.add_comm 7]
 simp only [box]
 split
 ·rename_i hid
  rw [mT _ (by rw [hid]; intro i hi; simp at hi; rcases hi with rfl | rfl | rfl <;> rfl)]
 ·rfl
theorem sD {l:List Bool} {b:Bool}:aJ l ++ [.bool b] = aJ (l ++ [b]):=by simp [aJ]
theorem OK {c:List UInt8} (hc:c.length ≤ 2000) {al st:Int} {w s:Nat} (hw:w ≤ 6) (hst:st = s) (hs:s ≤ 100):∀ (j i:Nat) (p:Int) (d:List (List Int)) (bl:List Bool) (hi:i + j = s) (hd:d.length = i) (hbl:bl.length = i) (hrw:∀ r ∈ d,r.length = w) (hp:0 ≤ p) (hp2:p + 7 * j ≤ 1000000000),
  ∃ (d2:List (List Int)) (bl2:List Bool) (q:Int),d2.length = s ∧ bl2.length = s ∧ (∀ r ∈ d2,r.length = w) ∧ p ≤ q ∧ q ≤ p + 7 * j ∧ ∀ (R:Type) (L n m:Nat) (k:KE R),2 ≤ n → 2 ^ 60 ≤ L → j < m →
  aM env (aA env L n) L 1 (W32 (W4 (W1 [1002]))) Bz5 (d9 0) Bz31 m (.ptr 0 0 0 :: Y1 (nI st :: Y2 (Y1 (.ptr 1 0 0 :: .ptr 2 0 0 :: nI w :: nI i :: Y32 (Y4 (Y2 (Y1 ([])))))))) (rdO c p :: .box [nI 0,.sl 3 0 0 0,.sl 4 0 0 0] :: .box [nI al,.sl 5 0 0 (List.length d),.sl 6 0 0 (List.length bl)] :: .arr [] 0 0 :: .arr [] 0 0 :: .vec (aC 7 d ++ aF 0) 1 0 :: .arr (aJ bl) 1 0 :: aH d) k
  = k (.exit 0) (.ptr 0 0 0 :: Y1 (nI st :: Y2 (Y1 (.ptr 1 0 0 :: .ptr 2 0 0 :: nI w :: nI s :: Y32 (Y4 (Y2 (Y1 ([])))))))) (rdO c q :: .box [nI 0,.sl 3 0 0 0,.sl 4 0 0 0] :: .box [nI al,.sl 5 0 0 (List.length d2),.sl 6 0 0 (List.length bl2)] :: .arr [] 0 0 :: .arr [] 0 0 :: .vec (aC 7 d2 ++ aF 0) 1 0 :: .arr (aJ bl2) 1 0 :: aH d2):=by
 intro j
 induction j with
 | zero =>
  intro i p d bl hi hd hbl hrw hp hp2
  obtain rfl:i = s:=by omega
  refine ⟨d,bl,p,hd,hbl,hrw,by omega,by omega,fun R L n m k hn hL hm => ?_⟩
  obtain _ | m:=m; omega
  have hdl:d.length ≤ 4294967296:=by omega
  subst hst
  simp -implicitDefEqProofs (maxSteps:=2000000) (disch:=try exact Dz) only [↓DN,↓kRet,UP,simprocAttr,Int.lt_irrefl,↓aMk,rZ,rB,Tryz.f103]
 | succ j ih =>
  intro i p d bl hi hd hbl hrw hp hp2
  have hdl:d.length ≤ 4294967296:=by omega
  obtain ⟨r,q,g1,g2,kd1⟩:=OT hc (al:=al) (st:=st) (i9:=i) hw hdl (cs:=aJ bl) (z:=bl.length) w 0 p [] (by omega) rfl hp (by omega)
  obtain ⟨v,v0,v1,v2,kd2⟩:=eI hc q 3 (by omega) (by omega)
  obtain ⟨d2,bl2,q2,e1,e2,e3,e4,e5,kd3⟩:=ih (i + 1) (q + 1) (d ++ [r]) (bl ++ [decide (0 < v)]) (by omega) (by simp; omega) (by simp; omega) (by
   intro x hx
   rcases List.mem_append.1 hx with hx | hx
   ·exact hrw x hx
   ·simp at hx; subst hx; exact g1) (by omega) (by omega)
  refine ⟨d2,bl2,q2,e1,e2,e3,by omega,by omega,fun R L n m k hn hL hm => ?_⟩
  obtain _ | m:=m; omega
  have kd3':=kd3 R L n m k hn hL (by omega)
  have loop_c:=fun {R:Type} {n:Nat} {k:KE R} (hn:2 ≤ n) => kd1 R L n L k hn hL (by omega)
  rw [cs1 i] at kd3'
  simp only [Int.natCast_zero,m2,List.length_append,List.length_cons,List.length_nil,Nat.zero_add] at loop_c kd3'
  have hc1:(i:Int) < st:=by omega
  have g1':w = r.length:=g1.symm
  have ht:(aC 8 d ++ aF 0).take d.length = aC 8 d:=A3 rfl
  have hlv:d.length ≤ (aC 8 d ++ aF 0).length:=by rw [List.length_append,fT]; omega
  obtain ⟨G2,hG2⟩:∃ G:H,G = (rdO c (q + 1) :: .box [nI 0,.sl 4 0 0 0,.sl 5 0 0 0] :: .box [nI al,.sl 6 1 0 (d.length + 1),.sl 7 0 0 bl.length] :: .arr (ints r) 1 0 :: .arr [] 0 0 :: .arr [] 0 0 :: .vec (aC 8 d ++ [.sl 3 0 0 w]) 1 1 :: .arr (aJ (bl ++ [decide (0 < v)])) 1 1 :: (aH d ++ .vec [.sl 3 0 0 w] 1 0 :: .arr [.bool (decide (0 < v))] 1 0 :: [])):=⟨_,rfl⟩
  have k2:G2[2]? = some (.box [nI al,.sl 6 1 0 (d.length + 1),.sl 7 0 0 bl.length]):=by rw [hG2]; rfl
  have k3:G2[3]? = some (.arr (ints r) 1 0):=by rw [hG2]; rfl
  have k6:G2[6]? = some (.vec (aC 8 d ++ [.sl 3 0 0 w]) 1 1):=by rw [hG2]; rfl
  have k7:G2[7]? = some (.arr (aJ (bl ++ [decide (0 < v)])) 1 1):=by rw [hG2]; rfl
  have ok3:Okay G2 3:=.mk _ _ k3 (by simp) (by rw [bN k3]; simp)
  have ok7:Okay G2 7:=.mk _ _ k7 (by simp) (by rw [bN k7]; simp)
  have ok6:Okay G2 6:=.mk _ _ k6 (by simp) (by
   intro y hy
   have:kids G2 6 = List.range' 8 d.length ++ [3]:=by simp [kids,k6,bL,bU,idsL,idsA]
   rw [this,List.mem_append,List.mem_range'_1] at hy
   rcases hy with hy | hy
   ·obtain ⟨z,rfl⟩:∃ z,y = 8 + z:=⟨y - 8,by omega⟩
    have hz:z < d.length:=by omega
    have hr:G2[8 + z]? = some (.arr (ints d[z]) 1 0):=by
     rw [hG2,show 8 + z = z + 1 + 1 + 1 + 1 + 1 + 1 + 1 + 1 by omega]
     simp only [List.getElem?_cons_succ]
     exact BN (List.getElem?_eq_getElem hz)
    exact .mk _ _ hr (by simp) (by rw [bN hr]; simp)
   ·simp at hy
    subst hy
    exact ok3)
  have ok2:Okay G2 2:=.mk _ _ k2 (by simp) (by
   intro y hy
   have:kids G2 2 = [6,7]:=by simp [kids,k2,idsL,idsA]
   rw [this] at hy
   simp at hy
   rcases hy with rfl | rfl
   ·exact ok6
   ·exact ok7)
  have wG2:2 + wgt G2 ≤ 1099511627776:=by
   have h1:=oA (aH d) [.vec [.sl 3 0 0 w] 1 0,.arr [.bool (decide (0 < v))] 1 0]
   rw [B8] at h1
   rw [hG2]
   simp only [wgt,idsL,idsA,bL,bU,List.length_append,List.length_range',List.length_cons,List.length_nil] at h1 ⊢
   omega
  have st_sto:∀ {call:aW} {thaw:List Nat} {dst:Option Tmp} {x y:Operand},memD env call thaw dst (.store 23 x y) G2 [.ptr 2 0 2,.sl 7 1 0 (bl.length + 1)] = some (.d .undef,G2.set 2 (.box (bG [nI al,.sl 6 1 0 (d.length + 1),.sl 7 0 0 bl.length] 2 [.sl 7 1 0 (bl.length + 1)])),{ ids:=aD aG G2 [2,7] [],ro:=false,wr:=aD aG G2 [2,7] [] }):=by
   intro call thaw dst x y
   exact sG kr kr k2 (by simp) ok2 ok7 wG2
  obtain ⟨o2,ho2⟩:∃ o,o = aD aG G2 [2,7] []:=⟨_,rfl⟩
  rw [← ho2] at st_sto
  rw [hG2] at st_sto
  simp only [List.set_cons_succ,List.set_cons_zero,bG,List.take_succ_cons,List.take_zero,List.cons_append,List.nil_append,List.length_cons,List.length_nil,List.drop_succ_cons,List.drop_nil,Nat.reduceAdd] at st_sto
  clear hG2 k2 k3 k6 k7 ok2 ok3 ok6 ok7 wG2 ho2 ih kd1 kd3
  subst hd
  generalize hbv:decide (0 < v) = b at *
  simp -implicitDefEqProofs (maxSteps:=2000000) (disch:=try exact Dz) only [↓DN,↓kAsg,↓kRet,UP,simprocAttr,LA,hc1,hbv,↓loop_c,↓kd2,cB,fT,aJK,Nat.le_refl,sJ,D6,aCS,aFp,Nat.sub_self,ht,sD,List.append_assoc,↓aM2,aEK,OV,P5,P4,KZ,↓st_sto,↓aNe,↓kd3',rZ,rB,Tryz.f103]
theorem I6 {c:List UInt8} (hc:c.length ≤ 2000) {al st:Int} {w s:Nat} (hw:w ≤ 6) (hst:st = s) (hs:s ≤ 100) (h1:1 ≤ s) (p:Int) (hp:0 ≤ p) (hp2:p + 7 * s ≤ 1000000000) :
  ∃ (d2:List (List Int)) (bl2:List Bool) (q:Int),d2.length = s ∧ bl2.length = s ∧ (∀ r ∈ d2,r.length = w) ∧ p ≤ q ∧ q ≤ p + 7 * s ∧ ∀ (R:Type) (L n m:Nat) (k:KE R),2 ≤ n → 2 ^ 60 ≤ L → s < m →
  aM env (aA env L n) L 1 (W32 (W4 (W1 [1002]))) Bz5 (d9 0) Bz31 m (.ptr 0 0 0 :: Y1 (nI st :: Y2 (Y1 (.ptr 1 0 0 :: .ptr 2 0 0 :: nI w :: nI 0 :: Y32 (Y4 (Y2 (Y1 ([])))))))) (rdO c p :: .box [nI 0,.sl 3 0 0 0,.sl 4 0 0 0] :: .box [nI al,.sl 5 0 0 0,.sl 6 0 0 0] :: .arr [] 0 0 :: .arr [] 0 0 :: .arr [] 0 0 :: .arr [] 0 0 :: []) k
  = k (.exit 0) (.ptr 0 0 0 :: Y1 (nI st :: Y2 (Y1 (.ptr 1 0 0 :: .ptr 2 0 0 :: nI w :: nI s :: Y32 (Y4 (Y2 (Y1 ([])))))))) (rdO c q :: .box [nI 0,.sl 3 0 0 0,.sl 4 0 0 0] :: .box [nI al,.sl 5 0 0 (List.length d2),.sl 6 0 0 (List.length bl2)] :: .arr [] 0 0 :: .arr [] 0 0 :: .vec (aC 7 d2 ++ aF 0) 1 0 :: .arr (aJ bl2) 1 0 :: aH d2):=by
 obtain ⟨j,hj⟩:∃ j,s = j + 1:=⟨s - 1,by omega⟩
 obtain ⟨r,q,g1,g2,kd1⟩:=L9 hc (al:=al) (st:=st) (i9:=0) hw (cs:=[]) (z:=0) w 0 p [] (by omega) rfl hp (by omega)
 obtain ⟨v,v0,v1,v2,kd2⟩:=eI hc q 3 (by omega) (by omega)
 obtain ⟨d2,bl2,q2,e1,e2,e3,e4,e5,kd3⟩:=OK hc (al:=al) (st:=st) hw hst hs j 1 (q + 1) [r] [decide (0 < v)] (by omega) rfl rfl (by intro x hx; simp at hx; subst hx; exact g1) (by omega) (by omega)
 refine ⟨d2,bl2,q2,e1,e2,e3,by omega,by omega,fun R L n m k hn hL hm => ?_⟩
 obtain _ | m:=m; omega
 have kd3':=kd3 R L n m k hn hL (by omega)
 have loop_c:=fun {R:Type} {n:Nat} {k:KE R} (hn:2 ≤ n) => kd1 R L n L k hn hL (by omega)
 simp only [Int.natCast_zero,m2] at loop_c
 have e7:aC 7 [r] ++ aF 0 = [.sl 7 0 0 r.length]:=rfl
 have e8:aH [r] = [.arr (ints r) 1 0]:=rfl
 have e9:aJ [decide (0 < v)] = [.bool (decide (0 < v))]:=rfl
 rw [e7,e8,e9,g1] at kd3'
 simp only [List.length_cons,List.length_nil,Nat.zero_add,show ((1:Nat):Int) = 1 from rfl] at kd3'
 have hc1:(0:Int) < st:=by omega
 generalize hbv:decide (0 < v) = b at *
 clear kd1 kd3
 simp -implicitDefEqProofs (maxSteps:=2000000) (disch:=try exact Dz) only [↓DN,↓kAsg,↓kRet,UP,simprocAttr,hc1,hbv,↓loop_c,↓kd2,↓kd3',rZ,rB,Tryz.f103]
theorem AH {c:List UInt8} (hc:c.length ≤ 2000) (al st:Int) {s:Nat} (hst:st = s) (hs:s ≤ 100) (h1:1 ≤ s) (p:Int) (hp:0 ≤ p) (hp2:p + 7 * s ≤ 1000000000) :
  ∃ (nx:List (List Int)) (ac:List Bool) (q:Int),nx.length = s ∧ ac.length = s ∧ (∀ r ∈ nx,r.length = (aB al).length) ∧ p ≤ q ∧ q ≤ p + 7 * s ∧ ∀ (L n:Nat),3 ≤ n → 2 ^ 60 ≤ L →
  aA env L n 103 [.ptr 0 0 0,nI al,nI st] [rdO c p] = some (autA 1 al nx.length ac.length,rdO c q :: autO 1 nx ac):=by
 obtain ⟨nx,ac,q,g1,g2,g3,g4,g5,kd⟩:=I6 hc (al:=al) (st:=st) (w:=(aB al).length) (bY al) hst hs h1 p hp hp2
 refine ⟨nx,ac,q,g1,g2,g3,g4,g5,fun L n hn hL => ?_⟩
 have loop_c:=fun {R:Type} {n:Nat} {k:KE R} (hn:2 ≤ n) => kd R L n L k hn hL (by omega)
 have hnl:nx.length ≤ 4294967296:=by omega
 have hbl:(aJ ac).length = ac.length:=d8
 unfold autA autO
 clear kd
 obtain _ | n:=n; omega
 simp -implicitDefEqProofs (maxSteps:=2000000) (disch:=try exact Dz) only [↓DN,↓kAsg,↓kRet,UP,simprocAttr,↓fS,↓loop_c,↓aKc,↓aJD,z0As,z0A,eq_self,aB2,aCb,aCK,NI,Tryz.f103]
end Ev
end Go.Proofs.YtejmccgfigiadaaGreat
