/-
  Words: what the functions on words give.
-/
import Derived.Test.YtppffbehejpglaaGreatShlx
import Derived.Test.YtppffbehejpglaaGreatShRn
import Derived.Test.YtppffbehejpglaaGreatCopy
import Derived.Test.YtppffbehejpglaaGreatShSf
set_option linter.unusedSimpArgs false
set_option linter.unusedVariables false
set_option linter.unusedSectionVars false
set_option maxRecDepth 8000
set_option maxHeartbeats 4000000
namespace Go.Proofs.YtppffbehejpglaaGreat
namespace Ev
section
variable{R:Type}{L n:Nat}
def ltr(b:UInt8):Int:=(b.toNat:Int)-97
def cN(l:Int):UInt8:=UInt8.ofNat (97+l).toNat
theorem aLO{b:UInt8}:IntKind.i64.wrap ((b.toNat:Int)-97)=ltr b:=zU om (by have:=toNat_lt b;omega)
theorem aGN{l:Int}(h0:0<=l)(h:l<=5):IntKind.u8.wrap (97+l)=((cN l).toNat:Int):=by
 rw[aTN om om];unfold cN;rw[UInt8.toNat_ofNat'];omega
theorem aGD(hn:1<=n)(s:List UInt8)(i:Int)(h0:0<=i)(h:i<s.length):aA env L n 103 [.d (.str s),nI i] []=some (nI (ltr (s.getD i.toNat 0)),[]):=by
 obtain _|n:=n;omega
 simp-implicitDefEqProofs (maxSteps:=9^7) (disch:=try exact Dz) only[↓DN,↓kAsg,↓kRet,UP,simprocAttr,↓N8,aLO,aPB,aIJ,Tryz.f103]
theorem DV:type_of% fun {L} s i h0 h=>ks fun hn=> @aGD L _ hn s i h0 h:=fun {L} s i h0 h=>ks fun hn=> @aGD L _ hn s i h0 h
theorem S4(hn:1<=n)(s:List UInt8)(i:Int)(h0:0<=i)(h:i<s.length):aA env L n 73 [.d (.str s),nI i] []=some (nI (if eV (ltr (s.getD i.toNat 0))then ltr (s.getD i.toNat 0)else -1),[]):=by
 obtain _|n:=n;omega
 simp-implicitDefEqProofs (maxSteps:=9^7) (disch:=try exact Dz) only[↓DN,↓kAsg,↓kRet,UP,simprocAttr,↓N8,aLO,aHV,WP,Tryz.f73];generalize ltr (s.getD i.toNat 0)=v;unfold eV
 by_cases h1:v<0
 ·have h2:¬0<=v:=om;simp[h1,h2]
 ·have h2:0<=v:=om
  by_cases h3:6<=v
  ·have h4:¬v<6:=om;simp[h1,h2,h3,h4]
  ·have h4:v<6:=om;simp[h1,h2,h3,h4]
theorem D9:type_of% fun {L} s i h0 h=>ks fun hn=> @S4 L _ hn s i h0 h:=fun {L} s i h0 h=>ks fun hn=> @S4 L _ hn s i h0 h
theorem ME(hn:1<=n)(l:Int)(h0:0<=l)(h:l<=5):aA env L n 48 [nI l] []=some (.d (.int .u8 (cN l).toNat),[]):=by
 have e:IntKind.u8.wrap (97+l)=((cN l).toNat:Int):=aGN h0 h;obtain _|n:=n;omega
 simp-implicitDefEqProofs (maxSteps:=9^7) (disch:=try exact Dz) only[↓DN,↓kAsg,↓kRet,UP,simprocAttr,↓aFb,e,aEA,O8,Tryz.f48]
theorem LX:type_of% fun {L} l h0 h=>ks fun hn=> @ME L _ hn l h0 h:=fun {L} l h0 h=>ks fun hn=> @ME L _ hn l h0 h
def okB(b:UInt8):Bool:=eV (ltr b)
def dQ(s:List UInt8):Bool:=decide (s.length<=50000)&&s.all okB
def upTo{α:Type}(p:α->Bool)(l:List α)(i:Nat):Int:=(i:Int)+((l.drop i).takeWhile p).length
theorem aJy{α:Type}{p:α->Bool}{l:List α}:upTo p l l.length=l.length:=by
 unfold upTo;simp
theorem aFY{α:Type}{p:α->Bool}{l:List α}{i:Nat}{d:α}(h:i<l.length)(hp:p (l.getD i d)=false):upTo p l i=i:=by
 unfold upTo;rw[Aa,Ad h]at hp;simp only[Bb]at hp;rw[Df h,List.takeWhile_cons,hp];simp
theorem aMr{α:Type}{p:α->Bool}{l:List α}{i:Nat}{d:α}(h:i<l.length)(hp:p (l.getD i d)=true):upTo p l i=upTo p l (i+1):=by
 unfold upTo;rw[Aa,Ad h]at hp;simp only[Bb]at hp;rw[Df h,List.takeWhile_cons,hp]
 simp;omega
theorem aKb{α:Type}{p:α->Bool}{l:List α}{i:Nat}{d:α}(h:i<l.length)(hp:p (l.getD i d)=false):(l.drop i).all p=false:=by
 rw[Aa,Ad h]at hp;simp only[Bb]at hp;rw[Df h,Bu,hp];rfl
theorem aPQ{α:Type}{p:α->Bool}{l:List α}{i:Nat}{d:α}(h:i<l.length)(hp:p (l.getD i d)=true):(l.drop i).all p=(l.drop (i+1)).all p:=by
 rw[Aa,Ad h]at hp;simp only[Bb]at hp;rw[Df h,Bu,hp];rfl
theorem JN(hn:1<=n){s:List UInt8}(hs:s.length<4294967296){k:KE R}:∀(i:Int) (m:Nat) (h0:0<=i) (hi:i<=s.length) (hm:(s.length:Int)-i<m),
  aR env (aA env L n) L 0 [] Bz62 (A4 0) (Z1 (U1 (Z2 (U16 (U2 (U1 ([]))))))) m (.d (.str s)::Y1 (.d (.bool false)::nI i::Y16 (Y2 (Y1 ([]))))) [] k
  =if(s.drop i.toNat).all okB then k (.exit 0) (.d (.str s)::Y1 (.d (.bool false)::nI (upTo okB s i.toNat)::Y16 (Y2 (Y1 ([]))))) []else k .ret (.d (.str s)::Y1 (.d (.bool false)::nI (upTo okB s i.toNat)::Y16 (Y2 (Y1 ([]))))) []:=by
 intro i m h0 hi hm;obtain⟨j,hj⟩:∃j:Nat,(j:Int)=(s.length:Int)-i:=⟨((s.length:Int)-i).toNat,by omega⟩
 induction j generalizing i m with
 |zero=>
  obtain _|m:=m;omega;obtain rfl:i=s.length:=om
  simp-implicitDefEqProofs (maxSteps:=9^7) (disch:=try exact Dz) only[↓DN,↓kRet,UP,simprocAttr,Ah,lV,lX,Tryz.f127];simp only[Bw,Bz,if_true,aJy]
 |succ j ih=>
  obtain _|m:=m;omega;have hc:i<s.length:=om;have hk:i.toNat<s.length:=om;have e1:(i+1).toNat=i.toNat+1:=om
  cases hb:okB (s.getD i.toNat 0)with
  |true=>
   have hb':=hb;unfold okB eV at hb';simp only[decide_eq_true_eq]at hb';have n1:¬ltr (s.getD i.toNat 0)<0:=om;have n2:¬6<=ltr (s.getD i.toNat 0):=om
   simp-implicitDefEqProofs (maxSteps:=9^7) (disch:=try exact Dz) only[↓DN,↓kRet,UP,simprocAttr,hc,↓DV,n1,n2,↓ih,lV,lX,Tryz.f127];rw[e1,aPQ hk hb,aMr hk hb]
  |false=>
   have hb':=hb;unfold okB eV at hb';simp only[decide_eq_false_iff_not]at hb';rw[aKb hk hb,aFY hk hb]
   by_cases n1:ltr (s.getD i.toNat 0)<0
   ·simp-implicitDefEqProofs (maxSteps:=9^7) (disch:=try exact Dz) only[↓DN,↓kAsg,↓kRet,UP,simprocAttr,hc,↓DV,n1,lV,lX,Tryz.f127];rw[Bx h0]
   ·have n2:6<=ltr (s.getD i.toNat 0):=om
    simp-implicitDefEqProofs (maxSteps:=9^7) (disch:=try exact Dz) only[↓DN,↓kAsg,↓kRet,UP,simprocAttr,hc,↓DV,n1,n2,lV,lX,Tryz.f127];rw[Bx h0]
theorem OZ(hn:2<=n)(s:List UInt8)(hL:2^60<=L):aA env L n 127 [.d (.str s)] []=some (.d (.bool (dQ s)),[]):=by
 unfold dQ
 by_cases hs:s.length<=50000
 ·have hs':¬(50000:Int)<s.length:=om
  cases ha:s.all okB with
  |true=>
   obtain _|n:=n;omega
   simp-implicitDefEqProofs (maxSteps:=9^7) (disch:=try exact Dz) only[↓DN,↓kAsg,↓kRet,UP,simprocAttr,hs',↓JN,ha,BQ,vV,Tryz.f127];simp[hs]
  |false=>
   obtain _|n:=n;omega
   simp-implicitDefEqProofs (maxSteps:=9^7) (disch:=try exact Dz) only[↓DN,↓kAsg,↓kRet,UP,simprocAttr,hs',↓JN,ha,BQ,vV,Tryz.f127]
   all_goals simp
 ·have hs':(50000:Int)<s.length:=om;obtain _|n:=n;omega
  simp-implicitDefEqProofs (maxSteps:=9^7) (disch:=try exact Dz) only[↓DN,↓kAsg,↓kRet,UP,simprocAttr,hs',BQ,vV,Tryz.f127];simp[hs]
theorem tR:type_of% fun {L} s hL=>ks fun hn=> @OZ L _ hn s hL:=fun {L} s hL=>ks fun hn=> @OZ L _ hn s hL
def inB(a:Int)(b:UInt8):Bool:=okB b&&cO a (ltr b)
def dU(a:Int)(s:List UInt8):Bool:=cQ a&&decide (s.length<=50000)&&s.all (inB a)
theorem aPp{a:Int}{b:UInt8}:(decide (0<=(if eV (ltr b)then ltr b else -1))&&cO a (if eV (ltr b)then ltr b else -1))=inB a b:=by
 unfold inB okB
 cases h:eV (ltr b)with
 |true=>
  have:=xP.1 h;have h2:0<=ltr b:=om;simp[h2]
 |false=>simp
theorem FO(hn:1<=n){s:List UInt8}{a:Int}(hs:s.length<4294967296){k:KE R}:∀(i:Int) (m:Nat) (h0:0<=i) (hi:i<=s.length) (hm:(s.length:Int)-i<m),
  aR env (aA env L n) L 0 [] Bz49 (x9 0) (Z2 (U2 (Z1 (U8 (U2 (Z2 (U8 (U1 ([]))))))))) m (.d (.str s)::nI a::Y2 (.d (.bool false)::Y8 (Y2 (nI (s.length)::nI i::Y8 (Y1 ([])))))) [] k
  =if(s.drop i.toNat).all (inB a)then k (.exit 0) (.d (.str s)::nI a::Y2 (.d (.bool false)::Y8 (Y2 (nI (s.length)::nI (upTo (inB a) s i.toNat)::Y8 (Y1 ([])))))) []else k .ret (.d (.str s)::nI a::Y2 (.d (.bool false)::Y8 (Y2 (nI (s.length)::nI (upTo (inB a) s i.toNat)::Y8 (Y1 ([])))))) []:=by
 intro i m h0 hi hm;obtain⟨j,hj⟩:∃j:Nat,(j:Int)=(s.length:Int)-i:=⟨((s.length:Int)-i).toNat,by omega⟩
 induction j generalizing i m with
 |zero=>
  obtain _|m:=m;omega;obtain rfl:i=s.length:=om
  simp-implicitDefEqProofs (maxSteps:=9^7) (disch:=try exact Dz) only[↓DN,↓kRet,UP,simprocAttr,Ah,qN,o9,Tryz.f71];simp only[Bw,Bz,if_true,aJy]
 |succ j ih=>
  obtain _|m:=m;omega;have hc:i<s.length:=om;have hk:i.toNat<s.length:=om;have e1:(i+1).toNat=i.toNat+1:=om
  cases hb:inB a (s.getD i.toNat 0)with
  |true=>
   simp-implicitDefEqProofs (maxSteps:=9^7) (disch:=try exact Dz) only[↓DN,↓kRet,UP,simprocAttr,hc,↓D9,↓QS,aPp,hb,↓ih,qN,o9,Tryz.f71];rw[e1,aPQ hk hb,aMr hk hb]
  |false=>
   rw[aKb hk hb,aFY hk hb]
   simp-implicitDefEqProofs (maxSteps:=9^7) (disch:=try exact Dz) only[↓DN,↓kAsg,↓kRet,UP,simprocAttr,hc,↓D9,↓QS,aPp,hb,qN,o9,Tryz.f71];rw[Bx h0]
theorem MW(hn:2<=n)(s:List UInt8)(a:Int)(hL:2^60<=L):aA env L n 71 [.d (.str s),nI a] []=some (.d (.bool (dU a s)),[]):=by
 unfold dU
 cases hal:cQ a with
 |false=>
  obtain _|n:=n;omega
  simp-implicitDefEqProofs (maxSteps:=9^7) (disch:=try exact Dz) only[↓DN,↓kAsg,↓kRet,UP,simprocAttr,↓dT,hal,rH,nN,Tryz.f71]
  all_goals rfl
 |true=>
  by_cases hs:s.length<=50000
  ·have hs':¬(50000:Int)<s.length:=om
   cases ha:s.all (inB a)with
   |true=>
    obtain _|n:=n;omega
    simp-implicitDefEqProofs (maxSteps:=9^7) (disch:=try exact Dz) only[↓DN,↓kAsg,↓kRet,UP,simprocAttr,↓dT,hal,hs',↓FO,ha,rH,nN,Tryz.f71];simp[hs]
   |false=>
    obtain _|n:=n;omega
    simp-implicitDefEqProofs (maxSteps:=9^7) (disch:=try exact Dz) only[↓DN,↓kAsg,↓kRet,UP,simprocAttr,↓dT,hal,hs',↓FO,ha,rH,nN,Tryz.f71]
    all_goals simp
  ·have hs':(50000:Int)<s.length:=om;obtain _|n:=n;omega
   simp-implicitDefEqProofs (maxSteps:=9^7) (disch:=try exact Dz) only[↓DN,↓kAsg,↓kRet,UP,simprocAttr,↓dT,hal,hs',rH,nN,Tryz.f71];simp[hs]
theorem LS:type_of% fun {L} s a hL=>ks fun hn=> @MW L _ hn s a hL:=fun {L} s a hL=>ks fun hn=> @MW L _ hn s a hL
theorem aTg{α:Type}{p:α->Bool}{l:List α}{d:α}(ha:l.all p=true){i:Nat}(h:i<l.length):p (l.getD i d)=true:=by
 rw[Aa,Ad h];exact Bg.1 ha _ (At h)
end
theorem b5{R:Type}{call:aX}{h:H}{f:FuncId}{args:List A}{c:List UInt8}{p q:Int}{r:A}{k:KA R}(hm:(env.hint f).mode=0)(ha:idsL args=[])(hr:idsA r=[])(he:call f (.ptr 0 0 0::args) [rdO c p]=some (r,[rdO c q])):
  aW env call (rdO c p::h) f (.ptr 0 0 0::args) k=k r (rdO c q::h):=by
 have hid:idsL (A.ptr 0 0 0::args)=[0]:=by simp[idsL,idsA,ha]
 have hre:aE aI (rdO c p::h) [0] []=[0]:=rfl;have hpk:pack (rdO c p::h) [0]=[rdO c p]:=rfl
 have hma:aF (aJ [0]) (A.ptr 0 0 0::args)=A.ptr 0 0 0::args:=by
  simp only[aF,eD _ ha];rfl
 unfold aW;rw[hid,hre,hpk,hma]
 have hc:bS call env.hint [rdO c p] f (.ptr 0 0 0::args)=some (r,[rdO c q]):=by
  unfold bS;rw[hm];exact he
 rw[hc];have hcl:closed (rdO c p::h) [0] [0]=true:=rfl;simp only[Ae,Ac,Ab,hcl,and_self,if_true,sQ r hr]
 congr 1
 simp[bG,mapO,aF,mapA]
theorem aCu:(env.hint 12).mode=0:=kr
theorem aMz{a b:Int}(ha:0<=a)(ha2:a<2^62)(hb:0<=b)(hb2:b<2^62):0<=iXor .i64 a b/\iXor .i64 a b<2^62:=by
 obtain⟨m,rfl⟩:=Dq ha;obtain⟨n,rfl⟩:=Dq hb;have hm:m<2^62:=om;have hn:n<2^62:=om
 have hx:(BitVec.ofInt 64 (m:Int)^^^BitVec.ofInt 64 (n:Int)).toNat=m^^^n:=by
  rw[BitVec.toNat_xor]
  congr 1<;>(simp only[BitVec.ofInt_natCast,BitVec.toNat_ofNat];omega)
 have hlt:m^^^n<2^62:=Nat.xor_lt_two_pow hm hn;unfold iXor;have:(BitVec.ofInt IntKind.i64.bits (m:Int)^^^BitVec.ofInt IntKind.i64.bits (n:Int)).toNat=m^^^n:=hx;rw[this,zU om om];omega
theorem d6{c:List UInt8}(hc:c.length<=2000)(p b:Int)(hp:0<=p)(hp2:p<=1000000000):∃v:Int,0<=v/\(1<=b->v<b)/\(b<1->v=0)/\(Dw 1 12 [nI b] (nI v) c p (p+1)):=by
 by_cases h1:b<1
 ·refine⟨0,by omega,by omega,by omega,fun R L n hq k hn hL=>b5 aCu rfl rfl ?_⟩;obtain _|n:=n;omega
  simp-implicitDefEqProofs (maxSteps:=9^7) (disch:=try exact Dz) only[↓DN,↓kAsg,↓kRet,UP,simprocAttr,h1,rL,nQ,Tryz.f12]
 ·by_cases h2:c.length=0
  ·refine⟨0,by omega,by omega,by omega,fun R L n hq k hn hL=>b5 aCu rfl rfl ?_⟩;have h2':(c.length:Int)=0:=om;obtain _|n:=n;omega
   simp-implicitDefEqProofs (maxSteps:=9^7) (disch:=try exact Dz) only[↓DN,↓kAsg,↓kRet,UP,simprocAttr,h1,h2',rL,nQ,Tryz.f12]
  ·have h2':¬(c.length:Int)=0:=om
   by_cases h3:p<c.length
   ·have hb:b≠0:=om;have t0:0<=((c.getD p.toNat 0).toNat:Int).tmod b:=Int.tmod_nonneg b om;have t1:((c.getD p.toNat 0).toNat:Int).tmod b<b:=Int.tmod_lt_of_pos _ om;refine⟨((c.getD p.toNat 0).toNat:Int).tmod b,t0,fun _=>t1,by omega,fun R L n hq k hn hL=>b5 aCu rfl rfl ?_⟩;have e1:p+1-1=p:=om;obtain _|n:=n;omega
    simp-implicitDefEqProofs (maxSteps:=9^7) (disch:=try exact Dz) only[↓DN,↓kAsg,↓kRet,UP,simprocAttr,h1,h2',e1,h3,rL,nQ,Tryz.f12]
   ·have e1:p+1-1=p:=om;have hl1:(0:Int)<c.length:=om;have q1:0<=p.tmod c.length:=Int.tmod_nonneg _ hp;have q2:p.tmod c.length<c.length:=Int.tmod_lt_of_pos _ hl1;have q3:0<=(p*7+3).tmod c.length:=Int.tmod_nonneg _ om;have q4:(p*7+3).tmod c.length<c.length:=Int.tmod_lt_of_pos _ hl1;have q5:0<=p.tdiv c.length:=Int.tdiv_nonneg hp om;have q6:p.tdiv c.length<=p:=Int.tdiv_le_self _ hp;have b1:=toNat_lt (c.getD (p.tmod c.length).toNat 0);have b2:=toNat_lt (c.getD ((p*7+3).tmod c.length).toNat 0);have r1:(p.tmod c.length).toNat<c.length:=om;have r2:((p*7+3).tmod c.length).toNat<c.length:=om;obtain⟨x,hx⟩:∃x:Int,x=((c.getD (p.tmod c.length).toNat 0).toNat:Int)*131+((c.getD ((p*7+3).tmod c.length).toNat 0).toNat:Int)*1117+p*29+p.tdiv c.length*53:=⟨_,rfl⟩
    have x0:0<=x:=om;have x1:x<2^62:=om;have y0:0<=x.tdiv 64:=Int.tdiv_nonneg x0 om;have y1:x.tdiv 64<2^62:=by have:=Int.tdiv_le_self 64 x0;omega
    have z:=aMz x0 x1 y0 y1;have hb:b≠0:=om;have t0:0<=(iXor .i64 x (x.tdiv 64)).tmod b:=Int.tmod_nonneg b z.1;have t1:(iXor .i64 x (x.tdiv 64)).tmod b<b:=Int.tmod_lt_of_pos _ om;refine⟨(iXor .i64 x (x.tdiv 64)).tmod b,t0,fun _=>t1,by omega,fun R L n hq k hn hL=>b5 aCu rfl rfl ?_⟩;clear b1 b2 z t0 t1;have b1:=toNat_lt (c.getD (p.tmod c.length).toNat 0);have b2:=toNat_lt (c.getD ((p*7+3).tmod c.length).toNat 0);subst hx;obtain _|n:=n;omega
    simp-implicitDefEqProofs (maxSteps:=9^7) (disch:=try exact Dz) only[↓DN,↓kAsg,↓kRet,UP,simprocAttr,h1,h2',e1,h3,rL,nQ,Tryz.f12]
theorem aTL:(env.hint 37).mode=0:=kr
theorem m_of:(env.hint 34).mode=0:=kr
theorem aPR{R:Type}{call:aX}{hq:H}{f:FuncId}{c:List UInt8}{p q:Int}{r:A}{k:KA R}{cs:List D}{e g n id:Nat}(hi:hq[id]? =some (.arr cs e g))(hm:(env.hint f).mode=0)(hr:idsA r=[])(he:call f [.ptr 0 0 0,.sl 1 g 0 n] [rdO c p,.arr cs e g]=some (r,[rdO c q,.arr cs e g])):
  aW env call (rdO c p::hq) f [.ptr 0 0 0,.sl (id+1) g 0 n] k=k r (rdO c q::hq):=by
 have hlk:(rdO c p::hq)[id+1]? =some (.arr cs e g):=by rw[Aw];exact hi
 have hre:aE aI (rdO c p::hq) [0,id+1] []=[0,id+1]:=by
  have e1:aE aI (rdO c p::hq) [0,id+1] []=aE (aI-1) (rdO c p::hq) [id+1] [0]:=rfl
  have e2:aE (aI-1) (rdO c p::hq) [id+1] [0]=if [0].contains (id+1)=true then aE (aI-2) (rdO c p::hq) [] [0]else match(rdO c p::hq)[id+1]? with
   |some (.box cs)=>aE (aI-2) (rdO c p::hq) ([]++idsL cs) ([0]++[id+1])
   |some (.vec cs _ _)=>aE (aI-2) (rdO c p::hq) ([]++idsL cs) ([0]++[id+1])
   |some .void=>aE (aI-2) (rdO c p::hq) [] [0]
   |some _=>aE (aI-2) (rdO c p::hq) [] ([0]++[id+1])
   |none=>aE (aI-2) (rdO c p::hq) [] [0]:=rfl
  have e3:[0].contains (id+1)=false:=sm;rw[e1,e2,e3,hlk];rfl
 have hpk:pack (rdO c p::hq) [0,id+1]=[rdO c p,.arr cs e g]:=by
  simp only[pack,Ai,Ar,Aa,hlk]<;>rfl
 unfold aW;have hid:idsL [A.ptr 0 0 0,A.sl (id+1) g 0 n]=[0,id+1]:=rfl;rw[hid,hre,hpk]
 have hma:aF (aJ [0,id+1]) [A.ptr 0 0 0,A.sl (id+1) g 0 n]=[A.ptr 0 0 0,A.sl 1 g 0 n]:=by
  simp[aF,mapA,aJ]
 rw[hma]
 have hc:bS call env.hint [rdO c p,.arr cs e g] f [.ptr 0 0 0,.sl 1 g 0 n]=some (r,[rdO c q,.arr cs e g]):=by
  unfold bS;rw[hm];exact he
 rw[hc]
 have hcl:closed (rdO c p::hq) [0,id+1] [0,id+1]=true:=by
  simp only[closed,Bu,Bz,hlk,Cp];simp[idsL,idsA]
 simp only[Ae,Ac,Ab,hcl,and_self,if_true,sQ r hr]
 congr 1
 simp only[bG,mapO,aF,mapA,Ar,Aj,Ci,Bq]
 congr 1
 exact aSC hi
theorem aBv{α:Type}{l:List α}{k:Nat}{d:α}(h:k<l.length):l.getD k d∈l:=by
 rw[Aa,Ad h];exact At h
theorem aTo{c:List UInt8}(hc:c.length<=2000)(l:List Int)(g:Nat)(hl:0<l.length)(hl2:l.length<1000)(p:Int)(hp:0<=p)(hp2:p<=1000000000):∃v:Int,v∈l/\∀(L n:Nat),2<=n->2^60<=L->aA env L n 37 [.ptr 0 0 0,.sl 1 g 0 l.length] [rdO c p,.arr (ints l) 1 g]=some (nI v,[rdO c (p+1),.arr (ints l) 1 g]):=by
 obtain⟨v,v0,v1,_,kd⟩:=d6 hc p l.length hp hp2;have v1:=v1 om;have hk:v.toNat<l.length:=om;refine⟨l.getD v.toNat 0,aBv hk,fun L n hn hL=> ?_⟩;obtain _|n:=n;omega
 simp-implicitDefEqProofs (maxSteps:=9^7) (disch:=try exact Dz) only[↓DN,↓kAsg,↓kRet,UP,simprocAttr,↓kd,aFt,SV,Tryz.f37]
theorem zX{c:List UInt8}(hc:c.length<=2000)(l:List Int)(hl:0<l.length)(hl2:l.length<1000)(p:Int)(hp:0<=p)(hp2:p<=1000000000):∃v:Int,v∈l/\(∀(R:Type) (L n id:Nat) (hq:H) (k:KA R),2<=n->2^60<=L->hq[id]? =some (.arr (ints l) 1 0)->aW env (aA env L n) (rdO c p::hq) 37 [.ptr 0 0 0,.sl (id+1) 0 0 l.length] k=k (nI v) (rdO c (p+1)::hq)):=by
 obtain⟨v,hv,he⟩:=aTo hc l 0 hl hl2 p hp hp2;exact⟨v,hv,fun R L n id hq k hn hL hi=>aPR hi aTL rfl (he L n hn hL)⟩
def aM(l:List (List UInt8)):List D:=l.map .str
theorem dZ{l:List (List UInt8)}:(aM l).length=l.length:=by simp[aM]
theorem PZ{l:List (List UInt8)}{k:Nat}(h:k<l.length):(((aM l).drop k).map A.d).head? =some (.d (.str (l.getD k []))):=by
 rw[List.head?_map,Db,aM,Bd,Aa,Ad h];rfl
theorem aTp{c:List UInt8}(hc:c.length<=2000)(l:List (List UInt8))(hl:0<l.length)(hl2:l.length<1000)(p:Int)(hp:0<=p)(hp2:p<=1000000000):∃v:List UInt8,v∈l/\(Dw 2 34 [.d (.ivs l.length (aM l))] (.d (.str v)) c p (p+1)):=by
 obtain⟨v,v0,v1,_,kd⟩:=d6 hc p l.length hp hp2;have v1:=v1 om;have hk:v.toNat<l.length:=om;refine⟨l.getD v.toNat [],aBv hk,fun R L n hq k hn hL=>b5 m_of rfl rfl ?_⟩;obtain _|n:=n;omega
 simp-implicitDefEqProofs (maxSteps:=9^7) (disch:=try exact Dz) only[↓DN,↓kAsg,↓kRet,UP,simprocAttr,↓kd,dZ,PZ,aHI,VE,Tryz.f34]
theorem aBd{R:Type}{L n:Nat}(hn:1<=n){a:Int}{k:KE R}:∀(i:Int) (m:Nat) (l:List Int) (len:Nat) (h0:0<=i) (hi:i<=6) (hm:6-i<m) (hl:len=l.length) (hlen:(l.length:Int)<=i),
  aR env (aA env L n) L 0 [] Bz55 (BL 0) (Z1 (U1 (Z2 (Z1 (U8 (U4 (U1 ([])))))))) m (nI a::Y1 (.d .nils::.sl 0 0 0 len::nI i::Y8 (Y4 (Y1 ([]))))) [.arr (ints l) 1 0] k
  =k (.exit 0) (nI a::Y1 (.d .nils::.sl 0 0 0 (len+((rI (6-i).toNat).filter (cO a)).length)::nI 6::Y8 (Y4 (Y1 ([]))))) [.arr (ints (l++(rI (6-i).toNat).filter (cO a))) 1 0]:=by
 intro i m l len h0 hi hm hl hlen;obtain⟨j,hj⟩:∃j:Nat,(j:Int)=(6:Int)-i:=⟨((6:Int)-i).toNat,by omega⟩
 induction j generalizing i m l len with
 |zero=>
  obtain _|m:=m;omega;obtain rfl:i=6:=om
  simp-implicitDefEqProofs (maxSteps:=9^7) (disch:=try exact Dz) only[↓DN,↓kRet,UP,simprocAttr,rW,qY,Tryz.f60];simp only[rI,List.filter_nil,Aj,Ac,Bv]
 |succ j ih=>
  obtain _|m:=m;omega;have hc:i<6:=om;have e1:(6-i).toNat=j+1:=om;have e2:(6-(i+1)).toNat=j:=om;have hr:rI (j+1)=i::rI j:=by simp only[rI];congr 1;omega
  rw[e1,hr,List.filter_cons]
  cases hb:cO a i with
  |true=>
   simp-implicitDefEqProofs (maxSteps:=9^7) (disch:=try exact Dz) only[↓DN,↓kRet,UP,simprocAttr,↓s5,↓ih,hc,hb,e2,rW,qY,Tryz.f60];simp only[Al,Ax,Ap,Nat.add_assoc,Nat.add_comm 1]
  |false=>
   simp-implicitDefEqProofs (maxSteps:=9^7) (disch:=try exact Dz) only[↓DN,↓kRet,UP,simprocAttr,↓s5,↓ih,hc,hb,e2,rW,qY,Tryz.f60]
theorem aTm:rI (6-(0:Int)).toNat=[0,1,2,3,4,5]:=rfl
theorem O4{L n:Nat}(hn:2<=n)(a:Int)(hL:2^60<=L):aA env L n 60 [nI a] []=some (.d (.ivs (aB a).length (ints (aB a))),[]):=by
 unfold aB;rw[<-aTm];obtain _|n:=n;omega
 simp-implicitDefEqProofs (maxSteps:=9^7) (disch:=try exact Dz) only[↓DN,↓kAsg,↓kRet,UP,simprocAttr,aQe,↓aBd,aFl,S5,Tryz.f60]
theorem fV:type_of% fun {L} a hL=>ks fun hn=> @O4 L _ hn a hL:=fun {L} a hL=>ks fun hn=> @O4 L _ hn a hL
theorem aAV{L n:Nat}(hn:1<=n)(l:Int)(h0:0<=l)(h:l<=5):aA env L n 77 [nI l] []=some (.d (.str [cN l]),[]):=by
 have e:IntKind.u8.wrap (97+l)=((cN l).toNat:Int):=aGN h0 h;have e2:[D.int .u8 ((cN l).toNat:Int)]=bK [cN l]:=rfl;obtain _|n:=n;omega
 simp-implicitDefEqProofs (maxSteps:=9^7) (disch:=try exact Dz) only[↓DN,↓kAsg,↓kRet,UP,simprocAttr,e,e2,↓NW,aKQ,aD3,Tryz.f77]
theorem NC:type_of% fun {L} l h0 h=>ks fun hn=> @aAV L _ hn l h0 h:=fun {L} l h0 h=>ks fun hn=> @aAV L _ hn l h0 h
theorem UQ{c:List UInt8}(hc:c.length<=2000){al st i9:Int}{w:Nat}(hw:w<=6){d:List (List Int)}(hdl:d.length<=4294967296){cs:List D}{z:Nat}:∀(j i:Nat) (p:Int) (o:List Int) (hi:i+j=w) (ho:o.length=i) (hp:0<=p) (hp2:p+j<=1000000000),
  ∃(r:List Int) (q:Int),r.length=w/\q=p+j/\∀(R:Type) (L n m:Nat) (k:KE R),2<=n->2^60<=L->j<m->
  aR env (aA env L n) L 1 (W32 (W4 (W1 [1002]))) Bz5 (jW 1) Bz35 m (.ptr 0 0 0::Y1 (nI st::Y2 (Y1 (.ptr 1 0 0::.ptr 2 0 0::nI w::nI i9::.sl 3 0 0 i::nI i::Y32 (Y4 (Y1 ([]))))))) (rdO c p::.box [nI 0,.sl 4 0 0 0,.sl 5 0 0 0]::.box [nI al,.sl 6 0 0 d.length,.sl 7 0 0 z]::.arr (ints o) 1 0::.arr [] 0 0::.arr [] 0 0::.vec (aC 8 d++aH 0) 1 0::.arr cs 1 0::aK d) k
  =k (.exit 2) (.ptr 0 0 0::Y1 (nI st::Y2 (Y1 (.ptr 1 0 0::.ptr 2 0 0::nI w::nI i9::.sl 3 0 0 w::nI w::Y32 (Y4 (Y1 ([]))))))) (rdO c q::.box [nI 0,.sl 4 0 0 0,.sl 5 0 0 0]::.box [nI al,.sl 6 0 0 d.length,.sl 7 0 0 z]::.arr (ints r) 1 0::.arr [] 0 0::.arr [] 0 0::.vec (aC 8 d++aH 0) 1 0::.arr cs 1 0::aK d):=by
 intro j
 induction j with
 |zero=>
  intro i p o hi ho hp hp2;obtain rfl:i=w:=om;refine⟨o,p,ho,by omega,fun R L n m k hn hL hm=> ?_⟩;obtain _|m:=m;omega;subst ho
  simp-implicitDefEqProofs (maxSteps:=9^7) (disch:=try exact Dz) only[↓DN,↓kRet,UP,simprocAttr,Ah,↓aQS,m4,nH,Tryz.f31]
 |succ j ih=>
  intro i p o hi ho hp hp2;obtain⟨v,v0,v1,v2,kd⟩:=d6 hc p st hp om;obtain⟨r,q,g1,g2,kd2⟩:=ih (i+1) (p+1) (o++[v]) om (by simp;omega) om om;refine⟨r,q,g1,by omega,fun R L n m k hn hL hm=> ?_⟩;obtain _|m:=m;omega;have kd2':=kd2 R L n m k hn hL om;rw[cs1 i]at kd2';have hc1:(i:Int)<w:=om;subst ho;clear ih kd2
  simp-implicitDefEqProofs (maxSteps:=9^7) (disch:=try exact Dz) only[↓DN,↓kRet,UP,simprocAttr,hc1,↓kd,↓kd2',cD,vM,↓aR3,m4,nH,Tryz.f31]
theorem TV{c:List UInt8}(hc:c.length<=2000){al st i9:Int}{w:Nat}(hw:w<=6){cs:List D}{z:Nat}:∀(j i:Nat) (p:Int) (o:List Int) (hi:i+j=w) (ho:o.length=i) (hp:0<=p) (hp2:p+j<=1000000000),
  ∃(r:List Int) (q:Int),r.length=w/\q=p+j/\∀(R:Type) (L n m:Nat) (k:KE R),2<=n->2^60<=L->j<m->
  aR env (aA env L n) L 1 (W32 (W4 (W1 [1002]))) Bz5 (jW 1) Bz35 m (.ptr 0 0 0::Y1 (nI st::Y2 (Y1 (.ptr 1 0 0::.ptr 2 0 0::nI w::nI i9::.sl 3 0 0 i::nI i::Y32 (Y4 (Y1 ([]))))))) (rdO c p::.box [nI 0,.sl 4 0 0 0,.sl 5 0 0 0]::.box [nI al,.sl 6 0 0 0,.sl 7 0 0 z]::.arr (ints o) 1 0::.arr [] 0 0::.arr [] 0 0::.arr [] 0 0::.arr cs 0 0::[]) k
  =k (.exit 2) (.ptr 0 0 0::Y1 (nI st::Y2 (Y1 (.ptr 1 0 0::.ptr 2 0 0::nI w::nI i9::.sl 3 0 0 w::nI w::Y32 (Y4 (Y1 ([]))))))) (rdO c q::.box [nI 0,.sl 4 0 0 0,.sl 5 0 0 0]::.box [nI al,.sl 6 0 0 0,.sl 7 0 0 z]::.arr (ints r) 1 0::.arr [] 0 0::.arr [] 0 0::.arr [] 0 0::.arr cs 0 0::[]):=by
 intro j
 induction j with
 |zero=>
  intro i p o hi ho hp hp2;obtain rfl:i=w:=om;refine⟨o,p,ho,by omega,fun R L n m k hn hL hm=> ?_⟩;obtain _|m:=m;omega;subst ho
  simp-implicitDefEqProofs (maxSteps:=9^7) (disch:=try exact Dz) only[↓DN,↓kRet,UP,simprocAttr,Ah,m4,nH,Tryz.f31]
 |succ j ih=>
  intro i p o hi ho hp hp2;obtain⟨v,v0,v1,v2,kd⟩:=d6 hc p st hp om;obtain⟨r,q,g1,g2,kd2⟩:=ih (i+1) (p+1) (o++[v]) om (by simp;omega) om om;refine⟨r,q,g1,by omega,fun R L n m k hn hL hm=> ?_⟩;obtain _|m:=m;omega;have kd2':=kd2 R L n m k hn hL om;rw[cs1 i]at kd2';have hc1:(i:Int)<w:=om;subst ho;clear ih kd2
  simp-implicitDefEqProofs (maxSteps:=9^7) (disch:=try exact Dz) only[↓DN,↓kRet,UP,simprocAttr,hc1,↓kd,↓kd2',m4,nH,Tryz.f31]
theorem aRV{m:List Bool}{s:List A}{y1 y2 x0 x1:D}{k z rl:Nat}{r:List Int}{cs:List D}{d:List (List Int)}{p:H}(hr:rl=r.length)(hl:d.length<=4294967296):gc 1 m s (.box [.d y1,.d y2]::.box [.d x0,.sl 4 0 0 0,.sl 5 0 0 0]::.box [.d x1,.sl 6 1 0 k,.sl 7 1 0 z]::.arr (ints r) 1 0::.arr [] 0 0::.arr [] 0 0::.vec (aC 8 d++[.sl 3 0 0 rl]) 1 1::.arr cs 1 1::(aK d++p))=match box (tidy m s)with
  |.mk s1=>if idsL s1=[0,1,2]then(s1,.box [.d y1,.d y2]::.box [.d x0,.sl 3 0 0 0,.sl 4 0 0 0]::.box [.d x1,.sl 5 0 0 k,.sl 6 0 0 z]::.arr [] 0 0::.arr [] 0 0::.vec (aC 7 (d++[r])++aH 0) 1 0::.arr cs 1 0::aK (d++[r]))else gcO 1 m s (.box [.d y1,.d y2]::.box [.d x0,.sl 4 0 0 0,.sl 5 0 0 0]::.box [.d x1,.sl 6 1 0 k,.sl 7 1 0 z]::.arr (ints r) 1 0::.arr [] 0 0::.arr [] 0 0::.vec (aC 8 d++[.sl 3 0 0 rl]) 1 1::.arr cs 1 1::(aK d++p))
  |.no=>([],[]):=by
 have hn:aH 0=[]:=rfl;subst hr;rw[aSM hl,<-NR,GL,hn,Aj,Nat.add_comm 7];simp only[box]
 split
 ·rename_i hid
  rw[pC _ (by rw[hid];intro i hi;simp at hi;rcases hi with rfl|rfl|rfl<;>rfl)]
 ·rfl
theorem vP{l:List Bool}{b:Bool}:aD l++[.bool b]=aD (l++[b]):=by simp[aD]
theorem X2{c:List UInt8}(hc:c.length<=2000){al st:Int}{w s:Nat}(hw:w<=6)(hst:st=s)(hs:s<=100):∀(j i:Nat) (p:Int) (d:List (List Int)) (bl:List Bool) (hi:i+j=s) (hd:d.length=i) (hbl:bl.length=i) (hrw:∀r∈d,r.length=w) (hp:0<=p) (hp2:p+7*j<=1000000000),
  ∃(d2:List (List Int)) (bl2:List Bool) (q:Int),d2.length=s/\bl2.length=s/\(∀r∈d2,r.length=w)/\p<=q/\q<=p+7*j/\∀(R:Type) (L n m:Nat) (k:KE R),2<=n->2^60<=L->j<m->
  aR env (aA env L n) L 1 (W32 (W4 (W1 [1002]))) Bz5 (jW 0) Bz36 m (.ptr 0 0 0::Y1 (nI st::Y2 (Y1 (.ptr 1 0 0::.ptr 2 0 0::nI w::nI i::Y32 (Y4 (Y2 (Y1 ([])))))))) (rdO c p::.box [nI 0,.sl 3 0 0 0,.sl 4 0 0 0]::.box [nI al,.sl 5 0 0 (List.length d),.sl 6 0 0 (List.length bl)]::.arr [] 0 0::.arr [] 0 0::.vec (aC 7 d++aH 0) 1 0::.arr (aD bl) 1 0::aK d) k
  =k (.exit 0) (.ptr 0 0 0::Y1 (nI st::Y2 (Y1 (.ptr 1 0 0::.ptr 2 0 0::nI w::nI s::Y32 (Y4 (Y2 (Y1 ([])))))))) (rdO c q::.box [nI 0,.sl 3 0 0 0,.sl 4 0 0 0]::.box [nI al,.sl 5 0 0 (List.length d2),.sl 6 0 0 (List.length bl2)]::.arr [] 0 0::.arr [] 0 0::.vec (aC 7 d2++aH 0) 1 0::.arr (aD bl2) 1 0::aK d2):=by
 intro j
 induction j with
 |zero=>
  intro i p d bl hi hd hbl hrw hp hp2;obtain rfl:i=s:=om;refine⟨d,bl,p,hd,hbl,hrw,by omega,by omega,fun R L n m k hn hL hm=> ?_⟩;obtain _|m:=m;omega;have hdl:d.length<=4294967296:=om;subst hst
  simp-implicitDefEqProofs (maxSteps:=9^7) (disch:=try exact Dz) only[↓DN,↓kRet,UP,simprocAttr,Ah,↓aSE,uV,tF,Tryz.f31]
 |succ j ih=>
  intro i p d bl hi hd hbl hrw hp hp2;have hdl:d.length<=4294967296:=om;obtain⟨r,q,g1,g2,kd1⟩:=UQ hc (al:=al) (st:=st) (i9:=i) hw hdl (cs:=aD bl) (z:=bl.length) w 0 p [] om rfl hp om;obtain⟨v,v0,v1,v2,kd2⟩:=d6 hc q 3 om om
  obtain⟨d2,bl2,q2,e1,e2,e3,e4,e5,kd3⟩:=ih (i+1) (q+1) (d++[r]) (bl++[decide (0<v)]) om (by simp;omega) (by simp;omega) (by
   intro x hx
   rcases Am.1 hx with hx|hx
   ·exact hrw x hx
   ·simp at hx;subst hx;exact g1) om om
  refine⟨d2,bl2,q2,e1,e2,e3,by omega,by omega,fun R L n m k hn hL hm=> ?_⟩;obtain _|m:=m;omega;have kd3':=kd3 R L n m k hn hL om;have loop_c:=fun {R:Type} {n:Nat} {k:KE R} (hn:2<=n)=>kd1 R L n L k hn hL om;rw[cs1 i]at kd3';simp only[Aq,mL,Af,Ae,Ac,Ag]at loop_c kd3';have hc1:(i:Int)<st:=om;have g1':w=r.length:=g1.symm;have ht:(aC 8 d++aH 0).take d.length=aC 8 d:=F2 rfl;have hlv:d.length<=(aC 8 d++aH 0).length:=by rw[Af,gB];omega
  obtain⟨G2,hG2⟩:∃G:H,G=(rdO c (q+1)::.box [nI 0,.sl 4 0 0 0,.sl 5 0 0 0]::.box [nI al,.sl 6 1 0 (d.length+1),.sl 7 0 0 bl.length]::.arr (ints r) 1 0::.arr [] 0 0::.arr [] 0 0::.vec (aC 8 d++[.sl 3 0 0 w]) 1 1::.arr (aD (bl++[decide (0<v)])) 1 1::(aK d++.vec [.sl 3 0 0 w] 1 0::.arr [.bool (decide (0<v))] 1 0::[])):=⟨_,rfl⟩
  have k2:G2[2]? =some (.box [nI al,.sl 6 1 0 (d.length+1),.sl 7 0 0 bl.length]):=by rw[hG2];rfl
  have k3:G2[3]? =some (.arr (ints r) 1 0):=by rw[hG2];rfl
  have k6:G2[6]? =some (.vec (aC 8 d++[.sl 3 0 0 w]) 1 1):=by rw[hG2];rfl
  have k7:G2[7]? =some (.arr (aD (bl++[decide (0<v)])) 1 1):=by rw[hG2];rfl
  have ok3:Okay G2 3:=.mk _ _ k3 sm (by rw[bN k3];simp);have ok7:Okay G2 7:=.mk _ _ k7 sm (by rw[bN k7];simp)
  have ok6:Okay G2 6:=.mk _ _ k6 sm (by
   intro y hy;have:kids G2 6=List.range' 8 d.length++[3]:=by simp[kids,k6,bL,bV,idsL,idsA]
   rw[this,Am,Ct]at hy
   rcases hy with hy|hy
   ·obtain⟨z,rfl⟩:∃z,y=8+z:=⟨y-8,by omega⟩
    have hz:z<d.length:=om
    have hr:G2[8+z]? =some (.arr (ints d[z]) 1 0):=by
     rw[hG2,show 8+z=z+1+1+1+1+1+1+1+1 by omega];simp only[Aw];exact G0 (Ad hz)
    exact .mk _ _ hr sm (by rw[bN hr];simp)
   ·simp at hy;subst hy;exact ok3)
  have ok2:Okay G2 2:=.mk _ _ k2 sm (by
   intro y hy;have:kids G2 2=[6,7]:=by simp[kids,k2,idsL,idsA]
   rw[this]at hy;simp at hy
   rcases hy with rfl|rfl
   ·exact ok6
   ·exact ok7)
  have wG2:2+wgt G2<=1099511627776:=by
   have h1:=p9 (aK d) [.vec [.sl 3 0 0 w] 1 0,.arr [.bool (decide (0<v))] 1 0];rw[IP]at h1;rw[hG2];simp only[wgt,idsL,idsA,bL,bV,Af,Dx,Ae,Ac]at h1|-;omega
  have st_sto:∀ {call:aX} {thaw:List Nat} {dst:Option Tmp} {x y:Operand},memD env call thaw dst (.store 24 x y) G2 [.ptr 2 0 2,.sl 7 1 0 (bl.length+1)]=some (.d .undef,G2.set 2 (.box (bI [nI al,.sl 6 1 0 (d.length+1),.sl 7 0 0 bl.length] 2 [.sl 7 1 0 (bl.length+1)])),{ ids:=aE aI G2 [2,7] [],ro:=false,wr:=aE aI G2 [2,7] []}):=by
   intro call thaw dst x y;exact u5 kr kr k2 sm ok2 ok7 wG2
  obtain⟨o2,ho2⟩:∃o,o=aE aI G2 [2,7] []:=⟨_,rfl⟩
  rw[<-ho2]at st_sto;rw[hG2]at st_sto;simp only[Bq,Ci,bI,List.take_succ_cons,List.take_zero,Ax,Ap,Ae,Ac,Dn,List.drop_nil,Nat.reduceAdd]at st_sto;clear hG2 k2 k3 k6 k7 ok2 ok3 ok6 ok7 wG2 ho2 ih kd1 kd3;subst hd;generalize hbv:decide (0<v)=b at *
  simp-implicitDefEqProofs (maxSteps:=9^7) (disch:=try exact Dz) only[↓DN,↓kAsg,↓kRet,UP,simprocAttr,LA,hc1,hbv,↓loop_c,↓kd2,cD,gB,aPf,Ab,vM,JG,aHC,aKo,Bh,ht,vP,Al,↓aRX,aKt,UX,XI,VS,SG,↓st_sto,↓aRV,↓kd3',uV,tF,Tryz.f31]
theorem QY{c:List UInt8}(hc:c.length<=2000){al st:Int}{w s:Nat}(hw:w<=6)(hst:st=s)(hs:s<=100)(h1:1<=s)(p:Int)(hp:0<=p)(hp2:p+7*s<=1000000000):
  ∃(d2:List (List Int)) (bl2:List Bool) (q:Int),d2.length=s/\bl2.length=s/\(∀r∈d2,r.length=w)/\p<=q/\q<=p+7*s/\∀(R:Type) (L n m:Nat) (k:KE R),2<=n->2^60<=L->s<m->
  aR env (aA env L n) L 1 (W32 (W4 (W1 [1002]))) Bz5 (jW 0) Bz36 m (.ptr 0 0 0::Y1 (nI st::Y2 (Y1 (.ptr 1 0 0::.ptr 2 0 0::nI w::nI 0::Y32 (Y4 (Y2 (Y1 ([])))))))) (rdO c p::.box [nI 0,.sl 3 0 0 0,.sl 4 0 0 0]::.box [nI al,.sl 5 0 0 0,.sl 6 0 0 0]::.arr [] 0 0::.arr [] 0 0::.arr [] 0 0::.arr [] 0 0::[]) k
  =k (.exit 0) (.ptr 0 0 0::Y1 (nI st::Y2 (Y1 (.ptr 1 0 0::.ptr 2 0 0::nI w::nI s::Y32 (Y4 (Y2 (Y1 ([])))))))) (rdO c q::.box [nI 0,.sl 3 0 0 0,.sl 4 0 0 0]::.box [nI al,.sl 5 0 0 (List.length d2),.sl 6 0 0 (List.length bl2)]::.arr [] 0 0::.arr [] 0 0::.vec (aC 7 d2++aH 0) 1 0::.arr (aD bl2) 1 0::aK d2):=by
 obtain⟨j,hj⟩:∃j,s=j+1:=⟨s-1,by omega⟩
 obtain⟨r,q,g1,g2,kd1⟩:=TV hc (al:=al) (st:=st) (i9:=0) hw (cs:=[]) (z:=0) w 0 p [] om rfl hp om;obtain⟨v,v0,v1,v2,kd2⟩:=d6 hc q 3 om om;obtain⟨d2,bl2,q2,e1,e2,e3,e4,e5,kd3⟩:=X2 hc (al:=al) (st:=st) hw hst hs j 1 (q+1) [r] [decide (0<v)] om rfl rfl (by intro x hx;simp at hx;subst hx;exact g1) om om;refine⟨d2,bl2,q2,e1,e2,e3,by omega,by omega,fun R L n m k hn hL hm=> ?_⟩;obtain _|m:=m;omega;have kd3':=kd3 R L n m k hn hL om;have loop_c:=fun {R:Type} {n:Nat} {k:KE R} (hn:2<=n)=>kd1 R L n L k hn hL om;simp only[Aq,mL]at loop_c;have e7:aC 7 [r]++aH 0=[.sl 7 0 0 r.length]:=rfl;have e8:aK [r]=[.arr (ints r) 1 0]:=rfl;have e9:aD [decide (0<v)]=[.bool (decide (0<v))]:=rfl;rw[e7,e8,e9,g1]at kd3';simp only[Ae,Ac,Ag,show((1:Nat):Int)=1 from rfl]at kd3';have hc1:(0:Int)<st:=om;generalize hbv:decide (0<v)=b at *;clear kd1 kd3
 simp-implicitDefEqProofs (maxSteps:=9^7) (disch:=try exact Dz) only[↓DN,↓kAsg,↓kRet,UP,simprocAttr,hc1,hbv,↓loop_c,↓kd2,↓kd3',uV,tF,Tryz.f31]
theorem EM{c:List UInt8}(hc:c.length<=2000)(al st:Int){s:Nat}(hst:st=s)(hs:s<=100)(h1:1<=s)(p:Int)(hp:0<=p)(hp2:p+7*s<=1000000000):
  ∃(nx:List (List Int)) (ac:List Bool) (q:Int),nx.length=s/\ac.length=s/\(∀r∈nx,r.length=(aB al).length)/\p<=q/\q<=p+7*s/\∀(L n:Nat),3<=n->2^60<=L->
  aA env L n 31 [.ptr 0 0 0,nI al,nI st] [rdO c p]=some (autA 1 al nx.length ac.length,rdO c q::autO 1 nx ac):=by
 obtain⟨nx,ac,q,g1,g2,g3,g4,g5,kd⟩:=QY hc (al:=al) (st:=st) (w:=(aB al).length) (bQ al) hst hs h1 p hp hp2;refine⟨nx,ac,q,g1,g2,g3,g4,g5,fun L n hn hL=> ?_⟩;have loop_c:=fun {R:Type} {n:Nat} {k:KE R} (hn:2<=n)=>kd R L n L k hn hL om;have hnl:nx.length<=4294967296:=om;have hbl:(aD ac).length=ac.length:=cL;unfold autA autO;clear kd;obtain _|n:=n;omega
 simp-implicitDefEqProofs (maxSteps:=9^7) (disch:=try exact Dz) only[↓DN,↓kAsg,↓kRet,UP,simprocAttr,↓fV,↓loop_c,↓aPv,↓aPA,z0As,z0A,eq_self,aFZ,aGO,aHx,XT,Tryz.f31]
theorem aLs{R:Type}{call:aX}{hq:H}{f:FuncId}{args:List A}{c:List UInt8}{p q al:Int}{rs:List (List Int)}{ac:List Bool}{k:KA R}(hm:(env.hint f).mode=0)(ha:idsL args=[])(he:call f (.ptr 0 0 0::args) [rdO c p]=some (autA 1 al rs.length ac.length,rdO c q::autO 1 rs ac)):
  aW env call (rdO c p::hq) f (.ptr 0 0 0::args) k=k (autA (hq.length+1) al rs.length ac.length) (rdO c q::(hq++autO (hq.length+1) rs ac)):=by
 have hid:idsL (A.ptr 0 0 0::args)=[0]:=by simp[idsL,idsA,ha]
 have hre:aE aI (rdO c p::hq) [0] []=[0]:=rfl;have hpk:pack (rdO c p::hq) [0]=[rdO c p]:=rfl
 have hma:aF (aJ [0]) (A.ptr 0 0 0::args)=A.ptr 0 0 0::args:=by
  simp only[aF,eD _ ha];rfl
 have hc:bS call env.hint [rdO c p] f (.ptr 0 0 0::args)=some (autA 1 al rs.length ac.length,rdO c q::autO 1 rs ac):=by
  unfold bS;rw[hm];exact he
 have hcl:closed (rdO c p::hq) [0] [0]=true:=rfl
 have hb:∀i,i<rs.length+2->back [0] (hq.length+1) (rs.length+3) (1+i)=some (hq.length+1+i):=by
  intro i hi;unfold back;rw[if_neg sm,if_pos om];simp
 have hmp:(autO 1 rs ac).map (mapO (back [0] (hq.length+1) (rs.length+3)))=autO (hq.length+1) rs ac:=by
  simp only[autO,Ai];rw[aMt (d:=hq.length+1+2) fun i hi=>by rw[show 1+2+i=1+(2+i) by omega,hb _ om];congr 1;omega,aJB];rfl
 have hrm:mapA (back [0] (hq.length+1) (rs.length+3)) (autA 1 al rs.length ac.length)=autA (hq.length+1) al rs.length ac.length:=
  aIE (by simpa using hb 0 om) (hb 1 om)
 have hlen:(rdO c q::autO 1 rs ac).length=rs.length+3:=by rw[Ae,PU]
 unfold aW;rw[hid,hre,hpk,hma,hc];simp only[hlen,Ae,Ac,hcl,hrm,Ag,show 1<=rs.length+3 by omega,and_self,if_true];simp only[bG,Ci,hmp]
 congr 1
theorem N0{t:H}{y1 y2:D}{v n m:Nat}{al:Int}{rs:List (List Int)}{ac:List Bool}(k:Has (.box [.d y1,.d y2]::t) v rs ac)(hv:1<=v)(hn:n=rs.length)(hm:m=ac.length):
  ∃h2,oN 1 false (.box [.d y1,.d y2]::t) [.agg [nI al,.sl v 0 0 n,.sl (v+1) 0 0 m]]=some ([autD al rs ac],h2)/\aE 1099511627776 h2 (eP (List.take 1 h2)) [0]=[0]/\List.getD h2 0 default=.box [.d y1,.d y2]:=by
 subst hn;subst hm;obtain⟨ha,e1,i1⟩:=YS 4 (aFM _) (aS0 k);obtain⟨hb,e2,i2⟩:=YS 4 i1 (aS2 k)
 have h0:hb[0]? =some (.box [.d y1,.d y2]):=by
  rcases i2 0 with h|⟨_,_,_,h,_⟩|⟨_,_,_,_,h,_⟩
  ·rw[h];rfl
  ·cases h
  ·cases h
 obtain⟨t2,rfl⟩:∃t2,hb=.box [.d y1,.d y2]::t2:=by
  cases hb with
  |nil=>simp at h0
  |cons o t2=>simp at h0;exact⟨t2,by rw[h0]⟩
 refine⟨.box [.d y1,.d y2]::t2,?_,rfl,rfl⟩;have hv1:¬(v<1):=om;have hv2:¬(v+1<1):=om;simp only[oN,outA,CC,outS,hv1,hv2,decide_false,Bool.or_self,Ak,if_false];rw[show deep=4+1 from rfl,e1];simp only[Az];rw[e2];rfl
theorem O9{h:H}{v:Nat}{rs:List (List Int)}{ac:List Bool}{p:H}(hd:h.length=v):Has (h++(.vec (aC (v+2) rs++aH 0) 1 0::.arr (aD ac) 1 0::(aK rs++p))) v rs ac:=by
 subst hd;have:=aSH (h2:=p) (aSo (h:=h) (rs:=rs) (ac:=ac))
 simpa [autO]using this
theorem aNL:(env.hint 31).mode=0:=kr
theorem NO{R:Type}{L n:Nat}{hq:H}{c:List UInt8}{p q al st:Int}{rs:List (List Int)}{ac:List Bool}{k:KA R}(hn:3<=n)(hL:2^60<=L)
  (he:∀(L n:Nat),3<=n->2^60<=L->aA env L n 31 [.ptr 0 0 0,nI al,nI st] [rdO c p]=some (autA 1 al rs.length ac.length,rdO c q::autO 1 rs ac)):
  aW env (aA env L n) (rdO c p::hq) 31 [.ptr 0 0 0,nI al,nI st] k=k (autA (hq.length+1) al rs.length ac.length) (rdO c q::(hq++autO (hq.length+1) rs ac)):=
 aLs aNL (by simp[idsL,idsA]) (he L n hn hL)
def zH(x:Int):Nat->Nat->List Bool->List Bool
 |0,_,bl=>bl
 |j+1,i,bl=>zH x j (i+1) (bl.set i (decide ((i:Int)<x)))
theorem aFK(x:Int):∀(j i:Nat) (bl:List Bool),(zH x j i bl).length=bl.length
 |0,_,_=>rfl
 |j+1,i,bl=>by rw[zH,aFK x j,Bj]
def yZ(x:Int):Nat->Nat->List Int->List Int
 |0,_,r=>r
 |j+1,i,r=>yZ x j (i+1) (r.set i x)
theorem UT(x:Int):∀(j i:Nat) (r:List Int),(yZ x j i r).length=r.length
 |0,_,_=>rfl
 |j+1,i,r=>by rw[yZ,UT x j,Bj]
theorem aN1{l:List Bool}{k:Nat}{v:Bool}(h:k<l.length):List.take k (aD l)++[D.bool v]++List.drop (k+1) (aD l)=aD (l.set k v):=aGR h
theorem aCi{l:List Int}{k:Nat}{v:Int}(h:k<l.length):List.take k (ints l)++[D.int .i64 v]++List.drop (k+1) (ints l)=ints (l.set k v):=aB1 h
theorem kA{rs:List (List Int)}{k:Nat}(h:k<rs.length):((aC 7 rs++aH 0).drop k).head? =some (.sl (k+7) 0 0 (rs.getD k []).length):=by
 rw[aGz (b:=0) (k:=0) h,Nat.add_comm]
theorem DP{rs:List (List Int)}{b k:Nat}{r:List Int}(h:r.length=(rs.getD k []).length):aC b (rs.set k r)=aC b rs:=by
 apply aEC;rw[List.map_set]
 by_cases hk:k<rs.length
 ·have:r.length=(rs.map List.length)[k]'(by simpa using hk):=by
   rw[h,Dy,Aa,Ad hk];rfl
  rw[this,List.set_getElem_self]
 ·rw[List.set_eq_of_length_le (by simp;omega)]
theorem aSp{m:List Bool}{s:List A}{y1 y2 x0 x1:D}{k z:Nat}{cs:List D}{d d2:List (List Int)}(he:aC 7 d2=aC 7 d)(hl:d2.length<=4294967296):gc 1 m s (.box [.d y1,.d y2]::.box [.d x0,.sl 3 0 0 0,.sl 4 0 0 0]::.box [.d x1,.sl 5 0 0 k,.sl 6 0 0 z]::.arr [] 0 0::.arr [] 0 0::.vec (aC 7 d++aH 0) 1 0::.arr cs 1 0::aK d2)=match box (tidy m s)with
  |.mk s1=>if idsL s1=[1,2]/\z0As s1=true then(aF (BP d2.length) s1,.box [.d y1,.d y2]::.box [.d x0,.sl 3 0 0 0,.sl 4 0 0 0]::.box [.d x1,.sl 5 0 0 k,.sl 6 0 0 z]::.arr [] 0 0::.arr [] 0 0::.vec (aC 7 d++aH 0) 1 0::.arr cs 1 0::aK d2)else gcO 1 m s (.box [.d y1,.d y2]::.box [.d x0,.sl 3 0 0 0,.sl 4 0 0 0]::.box [.d x1,.sl 5 0 0 k,.sl 6 0 0 z]::.arr [] 0 0::.arr [] 0 0::.vec (aC 7 d++aH 0) 1 0::.arr cs 1 0::aK d2)
  |.no=>([],[]):=by
 rw[<-he];exact GZ hl
theorem aFA{R:Type}{L n:Nat}{y1 y2 x0:D}{al st x:Int}{s:Nat}{nx:List (List Int)}(hx:st-1=x)(hst:st=s)(hs:s<=100)(hnl:nx.length<=4294967296){k:KE R}:∀(j i m:Nat) (bl:List Bool) (len:Nat) (hi:i+j=s) (hm:j<m) (hbl:bl.length=s) (hlen:len=bl.length),
  aR env (aA env L n) L 1 [] Bz9 (qJ 0) (U2 (Z1 (U2 (U1 (Z2 (Z1 (U32 (U8 ([]))))))))) m (Y2 (nI st::Y2 (Y1 (.ptr 1 0 0::.ptr 2 0 0::nI i::Y32 (Y8 ([])))))) (.box [.d y1,.d y2]::.box [.d x0,.sl 3 0 0 0,.sl 4 0 0 0]::.box [nI al,.sl 5 0 0 nx.length,.sl 6 0 0 len]::.arr [] 0 0::.arr [] 0 0::.vec (aC 7 nx++aH 0) 1 0::.arr (aD bl) 1 0::aK nx) k
  =k (.exit 0) (Y2 (nI st::Y2 (Y1 (.ptr 1 0 0::.ptr 2 0 0::nI s::Y32 (Y8 ([])))))) (.box [.d y1,.d y2]::.box [.d x0,.sl 3 0 0 0,.sl 4 0 0 0]::.box [nI al,.sl 5 0 0 nx.length,.sl 6 0 0 s]::.arr [] 0 0::.arr [] 0 0::.vec (aC 7 nx++aH 0) 1 0::.arr (aD (zH x j i bl)) 1 0::aK nx):=by
 intro j
 induction j with
 |zero=>
  intro i m bl len hi hm hbl hlen;obtain _|m:=m;omega;obtain rfl:i=s:=om;rw[hbl]at hlen;subst hlen;have hc1:¬((len:Int)<st):=om
  simp-implicitDefEqProofs (maxSteps:=9^7) (disch:=try exact Dz) only[↓DN,↓kRet,UP,simprocAttr,hc1,↓GZ,z0As,z0A,eq_self,sN,r9,zH,K6,IX,Tryz.f65]
 |succ j ih=>
  intro i m bl len hi hm hbl hlen;obtain _|m:=m;omega;subst hlen;have hc1:(i:Int)<st:=om;have hk:i<bl.length:=om;have hb1:(0:Int)<=i:=om;have ih':=ih (i+1) m (bl.set i (decide ((i:Int)<x))) bl.length om om (by simpa using hbl) sm;rw[cs1 i]at ih';rw[zH];clear ih
  simp-implicitDefEqProofs (maxSteps:=9^7) (disch:=try exact Dz) only[↓DN,↓kRet,UP,simprocAttr,LA,hc1,hx,aN1,↓GZ,z0As,z0A,eq_self,sN,r9,↓ih',K6,IX,Tryz.f65]
theorem aE0{R:Type}{L n:Nat}{y1 y2 x0:D}{al st i9:Int}{s t:Nat}{bl:List Bool}{w:Nat}(hx:st-1=(t:Int))(hs:s<=100)(hw:w<=100)(ht:t<s){k:KE R}:∀(j i m:Nat) (nx:List (List Int)) (len:Nat) (hi:i+j=w) (hm:j<m) (hr:(nx.getD t []).length=w) (hnx:nx.length=s) (hlen:len=nx.length),
  aR env (aA env L n) L 1 [] Bz9 (qJ 1) Bz40 m (Y2 (nI st::Y2 (Y1 (.ptr 1 0 0::.ptr 2 0 0::nI i9::nI i::Y32 (Y4 (Y2 (Y1 ([])))))))) (.box [.d y1,.d y2]::.box [.d x0,.sl 3 0 0 0,.sl 4 0 0 0]::.box [nI al,.sl 5 0 0 len,.sl 6 0 0 bl.length]::.arr [] 0 0::.arr [] 0 0::.vec (aC 7 nx++aH 0) 1 0::.arr (aD bl) 1 0::aK nx) k
  =k (.exit 2) (Y2 (nI st::Y2 (Y1 (.ptr 1 0 0::.ptr 2 0 0::nI i9::nI w::Y32 (Y4 (Y2 (Y1 ([])))))))) (.box [.d y1,.d y2]::.box [.d x0,.sl 3 0 0 0,.sl 4 0 0 0]::.box [nI al,.sl 5 0 0 s,.sl 6 0 0 bl.length]::.arr [] 0 0::.arr [] 0 0::.vec (aC 7 nx++aH 0) 1 0::.arr (aD bl) 1 0::aK (nx.set t (yZ t j i (nx.getD t [])))):=by
 intro j
 induction j with
 |zero=>
  intro i m nx len hi hm hr hnx hlen;obtain _|m:=m;omega;obtain rfl:i=w:=om;rw[hnx]at hlen;subst hlen;have hc1:¬((i:Int)<(i:Int)):=om;have hnl:nx.length<=4294967296:=om;have hkd:t<nx.length:=om;have hg:=aIm hkd
  have e1:nx.set t (nx.getD t [])=nx:=by
   rw[Aa,Ad hkd];exact List.set_getElem_self hkd
  rw[yZ,e1]
  simp-implicitDefEqProofs (maxSteps:=9^7) (disch:=try exact Dz) only[↓DN,↓kRet,UP,simprocAttr,hx,hr,hc1,kA,↓GZ,z0As,z0A,eq_self,sN,r9,J7,G7,Tryz.f65]
 |succ j ih=>
  intro i m nx len hi hm hr hnx hlen;obtain _|m:=m;omega;subst hlen;have hnl:nx.length<=4294967296:=om;have hkd:t<nx.length:=om;have hg:=aIm hkd;have hc1:(i:Int)<(w:Int):=om;have hk:i<(nx.getD t []).length:=om;have hb1:(0:Int)<=i:=om
  have hgs:(nx.set t ((nx.getD t []).set i t)).getD t []=(nx.getD t []).set i t:=by
   rw[Aa,Eh hkd];rfl
  have hrs:aC 7 (nx.set t ((nx.getD t []).set i t))=aC 7 nx:=DP sm;have ih':=ih (i+1) m (nx.set t ((nx.getD t []).set i t)) nx.length om om (by rw[hgs];simpa using hr) (by simpa using hnx) sm;rw[cs1 i,hgs,hrs,List.set_set]at ih';rw[yZ];have hnl2:(nx.set t ((nx.getD t []).set i t)).length<=4294967296:=by rw[Bj];omega
  clear ih hgs;generalize hro:nx.getD t []=ro at *
  simp-implicitDefEqProofs (maxSteps:=9^7) (disch:=try exact Dz) only[↓DN,↓kRet,UP,simprocAttr,hx,hr,hro,hg,hc1,kA,aNZ,aCi,↓aSp,z0As,z0A,eq_self,sN,r9,↓ih',J7,G7,Tryz.f65]
theorem aEJ{R:Type}{L n m:Nat}{y1 y2 x0:D}{al st i9:Int}{s t:Nat}{bl:List Bool}{w:Nat}{nx:List (List Int)}(hx:st-1=(t:Int))(hs:s<=100)(hw:w<=100)(ht:t<s)(hm:w<m)(hr:(nx.getD t []).length=w)(hnx:nx.length=s){k:KE R}:
  aR env (aA env L n) L 1 [] Bz9 (qJ 1) Bz40 m (Y2 (nI st::Y2 (Y1 (.ptr 1 0 0::.ptr 2 0 0::nI i9::nI 0::Y32 (Y4 (Y2 (Y1 ([])))))))) (.box [.d y1,.d y2]::.box [.d x0,.sl 3 0 0 0,.sl 4 0 0 0]::.box [nI al,.sl 5 0 0 s,.sl 6 0 0 bl.length]::.arr [] 0 0::.arr [] 0 0::.vec (aC 7 nx++aH 0) 1 0::.arr (aD bl) 1 0::aK nx) k
  =k (.exit 2) (Y2 (nI st::Y2 (Y1 (.ptr 1 0 0::.ptr 2 0 0::nI i9::nI w::Y32 (Y4 (Y2 (Y1 ([])))))))) (.box [.d y1,.d y2]::.box [.d x0,.sl 3 0 0 0,.sl 4 0 0 0]::.box [nI al,.sl 5 0 0 s,.sl 6 0 0 bl.length]::.arr [] 0 0::.arr [] 0 0::.vec (aC 7 (nx.set t (yZ t w 0 (nx.getD t [])))++aH 0) 1 0::.arr (aD bl) 1 0::aK (nx.set t (yZ t w 0 (nx.getD t [])))):=by
 rw[DP (by rw[UT])];exact aE0 hx hs hw ht w 0 m nx s om hm hr hnx hnx.symm
theorem HS{d:List (List Int)}{o o1 o2:O}{p:H}{k:Nat}(h:k=d.length+2):(aK d++o1::o2::o::p)[k]? =some o:=by
 subst h;rw[Bn (by rw[cD];omega),cD,Dv];rfl
theorem JQ{d:List (List Int)}{o o1 o2 q:O}{p:H}{k:Nat}(h:k=d.length+2):(aK d++o1::o2::o::p).set k q=aK d++o1::o2::q::p:=by
 rw[Do _ _ (by rw[cD];omega),cD,h,Dv];rfl
theorem aKZ{c:List UInt8}(hc:c.length<=2000)(al st:Int){s:Nat}(hst:st=s)(hs:s<=100)(h1:1<=s)(p:Int)(hp:0<=p)(hp2:p+7*s<=1000000000):
  ∃(nx:List (List Int)) (ac:List Bool) (q:Int),nx.length=s/\ac.length=s/\(∀r∈nx,r.length=(aB al).length)/\p<=q/\q<=p+7*s/\∀(L n:Nat),4<=n->2^60<=L->
  aA env L n 65 [.ptr 0 0 0,nI al,nI st] [rdO c p]=some (autD al nx ac,[rdO c q]):=by
 obtain⟨nx,ac,q,g1,g2,g3,g4,g5,he⟩:=EM hc al st hst hs h1 p hp hp2;obtain⟨t,rfl⟩:∃t,s=t+1:=⟨s-1,by omega⟩
 have hx:st-1=(t:Int):=om;have hw:=bQ al;have hk:t<nx.length:=om
 have hr:(nx.getD t []).length=(aB al).length:=by
  rw[Aa,Ad hk];exact g3 _ (At hk)
 have hl1:(nx.set t (yZ t (aB al).length 0 (nx.getD t []))).length=t+1:=by rw[Bj,g1]
 have hl2:(zH (t:Int) (t+1) 0 ac).length=t+1:=by rw[aFK,g2]
 refine⟨nx.set t (yZ t (aB al).length 0 (nx.getD t [])),zH (t:Int) (t+1) 0 ac,q,hl1,hl2,?_,g4,g5,fun L n hn hL=> ?_⟩
 ·intro r hrm
  rcases Dr hrm with h|h
  ·exact g3 r h
  ·rw[h,UT,hr]
 have kd:=fun {R:Type} {n:Nat} {hq:H} {k:KA R} (hn:3<=n)=>NO (R:=R) (L:=L) (n:=n) (hq:=hq) (k:=k) hn hL he;have hnl:nx.length<=4294967296:=om;have loop_a:=fun {R:Type} {n:Nat} {y1 y2 x0:D} {k:KE R}=>aFA (R:=R) (L:=L) (n:=n) (y1:=y1) (y2:=y2) (x0:=x0) (al:=al) (nx:=nx) (k:=k) hx hst hs hnl (t+1) 0 L ac ac.length om om g2 rfl;have loop_b:=fun {R:Type} {n:Nat} {y1 y2 x0:D} {i9:Int} {k:KE R}=>aEJ (R:=R) (L:=L) (n:=n) (m:=L) (y1:=y1) (y2:=y2) (x0:=x0) (al:=al) (i9:=i9) (bl:=zH (t:Int) (t+1) 0 ac) (k:=k) hx hs om om om hr g1;rw[hl2]at loop_b;rw[g1,g2]at loop_a;simp only[autA,autO,g1,g2]at kd;simp only[Aq]at loop_a;have hbl:(aD (zH (t:Int) (t+1) 0 ac)).length=t+1:=by rw[cL,hl2]
 generalize nx.set t (yZ t (aB al).length 0 (nx.getD t []))=nx2 at *;generalize zH (t:Int) (t+1) 0 ac=ac2 at *;have hnl2:nx2.length<=4294967296:=om
 have hH:Has (rdO c q::.box [nI al,.sl 5 0 0 (t+1),.sl 6 0 0 (t+1)]::.box [nI al,.sl 5 0 0 (t+1),.sl 6 0 0 (t+1)]::.arr [] 0 0::.arr [] 0 0::.vec (aC 7 nx2++aH 0) 1 0::.arr (aD ac2) 1 0::aK nx2) 5 nx2 ac2:=by
  have:=O9 (h:=[rdO c q,.box [nI al,.sl 5 0 0 (t+1),.sl 6 0 0 (t+1)],.box [nI al,.sl 5 0 0 (t+1),.sl 6 0 0 (t+1)],.arr [] 0 0,.arr [] 0 0]) (v:=5) (rs:=nx2) (ac:=ac2) (p:=[]) rfl
  simpa using this
 obtain⟨h2,st_out,st_keep,st_trim⟩:=N0 (n:=t+1) (m:=t+1) (al:=al) hH om hl1.symm hl2.symm;simp only[autD]at st_out|-;clear he g3 g4 g5 hH;obtain _|n:=n;omega
 simp-implicitDefEqProofs (maxSteps:=9^7) (disch:=try exact Dz) only[↓DN,↓kAsg,↓kRet,UP,simprocAttr,g1,↓kd,↓loop_a,↓loop_b,cD,Al,HS,JQ,↓aSy,aMA,aGZ,aCv,↓GZ,sN,r9,↓st_out,↓st_keep,↓st_trim,z0As,z0A,eq_self,aKN,aDS,Tryz.f65]
end Ev
end Go.Proofs.YtppffbehejpglaaGreat
