/-
  Words: what the functions on words give.
-/
import Derived.Test.YthlkcebdfbjdoaaGreatPrimX
set_option linter.unusedSimpArgs false
set_option linter.unusedVariables false
set_option linter.unusedSectionVars false
set_option maxRecDepth 8000
set_option maxHeartbeats 4000000
namespace Go.Proofs.YthlkcebdfbjdoaaGreat
namespace Ev
section
variable{R:Type}{L n:Nat}
def ltr(b:UInt8):Int:=(b.toNat:Int)-97
def cL(l:Int):UInt8:=UInt8.ofNat (97+l).toNat
theorem aLS{b:UInt8}:IntKind.i64.wrap ((b.toNat:Int)-97)=ltr b:=y9 om (by have:=toNat_lt b;omega)
theorem aFo{l:Int}(h0:0<=l)(h:l<=5):IntKind.u8.wrap (97+l)=((cL l).toNat:Int):=by
 rw[aS1 om om];unfold cL;rw[UInt8.toNat_ofNat'];omega
theorem aFt(hn:1<=n)(s:List UInt8)(i:Int)(h0:0<=i)(h:i<s.length):aA env L n 148 [.d (.str s),nI i] []=some (nI (ltr (s.getD i.toNat 0)),[]):=by
 obtain _|n:=n;omega
 simp-implicitDefEqProofs (maxSteps:=9^7) (disch:=try exact Dz) only[↓DN,↓kAsg,↓kRet,UP,simprocAttr,↓NX,aLS,aOA,aJr,Tryz.f148]
theorem CZ:type_of% fun {L} s i h0 h=>ks fun hn=> @aFt L _ hn s i h0 h:=fun {L} s i h0 h=>ks fun hn=> @aFt L _ hn s i h0 h
theorem SA(hn:1<=n)(s:List UInt8)(i:Int)(h0:0<=i)(h:i<s.length):aA env L n 42 [.d (.str s),nI i] []=some (nI (if eP (ltr (s.getD i.toNat 0))then ltr (s.getD i.toNat 0)else -1),[]):=by
 obtain _|n:=n;omega
 simp-implicitDefEqProofs (maxSteps:=9^7) (disch:=try exact Dz) only[↓DN,↓kAsg,↓kRet,UP,simprocAttr,↓NX,aLS,aHA,WC,Tryz.f42];generalize ltr (s.getD i.toNat 0)=v;unfold eP
 by_cases h1:v<0
 ·have h2:¬0<=v:=om;simp[h1,h2]
 ·have h2:0<=v:=om
  by_cases h3:6<=v
  ·have h4:¬v<6:=om;simp[h1,h2,h3,h4]
  ·have h4:v<6:=om;simp[h1,h2,h3,h4]
theorem EB:type_of% fun {L} s i h0 h=>ks fun hn=> @SA L _ hn s i h0 h:=fun {L} s i h0 h=>ks fun hn=> @SA L _ hn s i h0 h
theorem KP(hn:1<=n)(l:Int)(h0:0<=l)(h:l<=5):aA env L n 64 [nI l] []=some (.d (.int .u8 (cL l).toNat),[]):=by
 have e:IntKind.u8.wrap (97+l)=((cL l).toNat:Int):=aFo h0 h;obtain _|n:=n;omega
 simp-implicitDefEqProofs (maxSteps:=9^7) (disch:=try exact Dz) only[↓DN,↓kAsg,↓kRet,UP,simprocAttr,↓aEq,e,aCZ,NF,Tryz.f64]
theorem KU:type_of% fun {L} l h0 h=>ks fun hn=> @KP L _ hn l h0 h:=fun {L} l h0 h=>ks fun hn=> @KP L _ hn l h0 h
def okB(b:UInt8):Bool:=eP (ltr b)
def dL(s:List UInt8):Bool:=decide (s.length<=50000)&&s.all okB
def upTo{α:Type}(p:α->Bool)(l:List α)(i:Nat):Int:=(i:Int)+((l.drop i).takeWhile p).length
theorem aI4{α:Type}{p:α->Bool}{l:List α}:upTo p l l.length=l.length:=by
 unfold upTo;simp
theorem aFT{α:Type}{p:α->Bool}{l:List α}{i:Nat}{d:α}(h:i<l.length)(hp:p (l.getD i d)=false):upTo p l i=i:=by
 unfold upTo;rw[Aa,Ae h]at hp;simp only[Bb]at hp;rw[Dk h,List.takeWhile_cons,hp];simp
theorem aLB{α:Type}{p:α->Bool}{l:List α}{i:Nat}{d:α}(h:i<l.length)(hp:p (l.getD i d)=true):upTo p l i=upTo p l (i+1):=by
 unfold upTo;rw[Aa,Ae h]at hp;simp only[Bb]at hp;rw[Dk h,List.takeWhile_cons,hp]
 simp;omega
theorem aIr{α:Type}{p:α->Bool}{l:List α}{i:Nat}{d:α}(h:i<l.length)(hp:p (l.getD i d)=false):(l.drop i).all p=false:=by
 rw[Aa,Ae h]at hp;simp only[Bb]at hp;rw[Dk h,Bt,hp];rfl
theorem aNE{α:Type}{p:α->Bool}{l:List α}{i:Nat}{d:α}(h:i<l.length)(hp:p (l.getD i d)=true):(l.drop i).all p=(l.drop (i+1)).all p:=by
 rw[Aa,Ae h]at hp;simp only[Bb]at hp;rw[Dk h,Bt,hp];rfl
theorem IY(hn:1<=n){s:List UInt8}(hs:s.length<4294967296){k:KE R}:∀(i:Int) (m:Nat) (h0:0<=i) (hi:i<=s.length) (hm:(s.length:Int)-i<m),
  aS env (aA env L n) L 0 [] Bz61 (BF 0) (Z1 (U1 (Z2 (U16 (U2 (U1 ([]))))))) m (.d (.str s)::Y1 (.d (.bool false)::nI i::Y16 (Y2 (Y1 ([]))))) [] k
  =if(s.drop i.toNat).all okB then k (.exit 0) (.d (.str s)::Y1 (.d (.bool false)::nI (upTo okB s i.toNat)::Y16 (Y2 (Y1 ([]))))) []else k .ret (.d (.str s)::Y1 (.d (.bool false)::nI (upTo okB s i.toNat)::Y16 (Y2 (Y1 ([]))))) []:=by
 intro i m h0 hi hm;obtain⟨j,hj⟩:∃j:Nat,(j:Int)=(s.length:Int)-i:=⟨((s.length:Int)-i).toNat,by omega⟩
 induction j generalizing i m with
 |zero=>
  obtain _|m:=m;omega;obtain rfl:i=s.length:=om
  simp-implicitDefEqProofs (maxSteps:=9^7) (disch:=try exact Dz) only[↓DN,↓kRet,UP,simprocAttr,Ah,lX,lU,Tryz.f136];simp only[Bw,Cc,if_true,aI4]
 |succ j ih=>
  obtain _|m:=m;omega;have hc:i<s.length:=om;have hk:i.toNat<s.length:=om;have e1:(i+1).toNat=i.toNat+1:=om
  cases hb:okB (s.getD i.toNat 0)with
  |true=>
   have hb':=hb;unfold okB eP at hb';simp only[decide_eq_true_eq]at hb';have n1:¬ltr (s.getD i.toNat 0)<0:=om;have n2:¬6<=ltr (s.getD i.toNat 0):=om
   simp-implicitDefEqProofs (maxSteps:=9^7) (disch:=try exact Dz) only[↓DN,↓kRet,UP,simprocAttr,hc,↓CZ,n1,n2,↓ih,lX,lU,Tryz.f136];rw[e1,aNE hk hb,aLB hk hb]
  |false=>
   have hb':=hb;unfold okB eP at hb';simp only[decide_eq_false_iff_not]at hb';rw[aIr hk hb,aFT hk hb]
   by_cases n1:ltr (s.getD i.toNat 0)<0
   ·simp-implicitDefEqProofs (maxSteps:=9^7) (disch:=try exact Dz) only[↓DN,↓kAsg,↓kRet,UP,simprocAttr,hc,↓CZ,n1,lX,lU,Tryz.f136];rw[Bx h0]
   ·have n2:6<=ltr (s.getD i.toNat 0):=om
    simp-implicitDefEqProofs (maxSteps:=9^7) (disch:=try exact Dz) only[↓DN,↓kAsg,↓kRet,UP,simprocAttr,hc,↓CZ,n1,n2,lX,lU,Tryz.f136];rw[Bx h0]
theorem N9(hn:2<=n)(s:List UInt8)(hL:2^60<=L):aA env L n 136 [.d (.str s)] []=some (.d (.bool (dL s)),[]):=by
 unfold dL
 by_cases hs:s.length<=50000
 ·have hs':¬(50000:Int)<s.length:=om
  cases ha:s.all okB with
  |true=>
   obtain _|n:=n;omega
   simp-implicitDefEqProofs (maxSteps:=9^7) (disch:=try exact Dz) only[↓DN,↓kAsg,↓kRet,UP,simprocAttr,hs',↓IY,ha,AJ,vC,Tryz.f136];simp[hs]
  |false=>
   obtain _|n:=n;omega
   simp-implicitDefEqProofs (maxSteps:=9^7) (disch:=try exact Dz) only[↓DN,↓kAsg,↓kRet,UP,simprocAttr,hs',↓IY,ha,AJ,vC,Tryz.f136]
   all_goals simp
 ·have hs':(50000:Int)<s.length:=om;obtain _|n:=n;omega
  simp-implicitDefEqProofs (maxSteps:=9^7) (disch:=try exact Dz) only[↓DN,↓kAsg,↓kRet,UP,simprocAttr,hs',AJ,vC,Tryz.f136];simp[hs]
theorem sR:type_of% fun {L} s hL=>ks fun hn=> @N9 L _ hn s hL:=fun {L} s hL=>ks fun hn=> @N9 L _ hn s hL
def inB(a:Int)(b:UInt8):Bool:=okB b&&cM a (ltr b)
def dR(a:Int)(s:List UInt8):Bool:=cO a&&decide (s.length<=50000)&&s.all (inB a)
theorem aOI{a:Int}{b:UInt8}:(decide (0<=(if eP (ltr b)then ltr b else -1))&&cM a (if eP (ltr b)then ltr b else -1))=inB a b:=by
 unfold inB okB
 cases h:eP (ltr b)with
 |true=>
  have:=wW.1 h;have h2:0<=ltr b:=om;simp[h2]
 |false=>simp
theorem EY(hn:1<=n){s:List UInt8}{a:Int}(hs:s.length<4294967296){k:KE R}:∀(i:Int) (m:Nat) (h0:0<=i) (hi:i<=s.length) (hm:(s.length:Int)-i<m),
  aS env (aA env L n) L 0 [] Bz48 (zH 0) (Z2 (U2 (Z1 (U8 (U2 (Z2 (U8 (U1 ([]))))))))) m (.d (.str s)::nI a::Y2 (.d (.bool false)::Y8 (Y2 (nI (s.length)::nI i::Y8 (Y1 ([])))))) [] k
  =if(s.drop i.toNat).all (inB a)then k (.exit 0) (.d (.str s)::nI a::Y2 (.d (.bool false)::Y8 (Y2 (nI (s.length)::nI (upTo (inB a) s i.toNat)::Y8 (Y1 ([])))))) []else k .ret (.d (.str s)::nI a::Y2 (.d (.bool false)::Y8 (Y2 (nI (s.length)::nI (upTo (inB a) s i.toNat)::Y8 (Y1 ([])))))) []:=by
 intro i m h0 hi hm;obtain⟨j,hj⟩:∃j:Nat,(j:Int)=(s.length:Int)-i:=⟨((s.length:Int)-i).toNat,by omega⟩
 induction j generalizing i m with
 |zero=>
  obtain _|m:=m;omega;obtain rfl:i=s.length:=om
  simp-implicitDefEqProofs (maxSteps:=9^7) (disch:=try exact Dz) only[↓DN,↓kRet,UP,simprocAttr,Ah,qD,oN,Tryz.f12];simp only[Bw,Cc,if_true,aI4]
 |succ j ih=>
  obtain _|m:=m;omega;have hc:i<s.length:=om;have hk:i.toNat<s.length:=om;have e1:(i+1).toNat=i.toNat+1:=om
  cases hb:inB a (s.getD i.toNat 0)with
  |true=>
   simp-implicitDefEqProofs (maxSteps:=9^7) (disch:=try exact Dz) only[↓DN,↓kRet,UP,simprocAttr,hc,↓EB,↓QT,aOI,hb,↓ih,qD,oN,Tryz.f12];rw[e1,aNE hk hb,aLB hk hb]
  |false=>
   rw[aIr hk hb,aFT hk hb]
   simp-implicitDefEqProofs (maxSteps:=9^7) (disch:=try exact Dz) only[↓DN,↓kAsg,↓kRet,UP,simprocAttr,hc,↓EB,↓QT,aOI,hb,qD,oN,Tryz.f12];rw[Bx h0]
theorem J2(hn:2<=n)(s:List UInt8)(a:Int)(hL:2^60<=L):aA env L n 12 [.d (.str s),nI a] []=some (.d (.bool (dR a s)),[]):=by
 unfold dR
 cases hal:cO a with
 |false=>
  obtain _|n:=n;omega
  simp-implicitDefEqProofs (maxSteps:=9^7) (disch:=try exact Dz) only[↓DN,↓kAsg,↓kRet,UP,simprocAttr,↓dV,hal,qQ,nP,Tryz.f12]
  all_goals rfl
 |true=>
  by_cases hs:s.length<=50000
  ·have hs':¬(50000:Int)<s.length:=om
   cases ha:s.all (inB a)with
   |true=>
    obtain _|n:=n;omega
    simp-implicitDefEqProofs (maxSteps:=9^7) (disch:=try exact Dz) only[↓DN,↓kAsg,↓kRet,UP,simprocAttr,↓dV,hal,hs',↓EY,ha,qQ,nP,Tryz.f12];simp[hs]
   |false=>
    obtain _|n:=n;omega
    simp-implicitDefEqProofs (maxSteps:=9^7) (disch:=try exact Dz) only[↓DN,↓kAsg,↓kRet,UP,simprocAttr,↓dV,hal,hs',↓EY,ha,qQ,nP,Tryz.f12]
    all_goals simp
  ·have hs':(50000:Int)<s.length:=om;obtain _|n:=n;omega
   simp-implicitDefEqProofs (maxSteps:=9^7) (disch:=try exact Dz) only[↓DN,↓kAsg,↓kRet,UP,simprocAttr,↓dV,hal,hs',qQ,nP,Tryz.f12];simp[hs]
theorem K3:type_of% fun {L} s a hL=>ks fun hn=> @J2 L _ hn s a hL:=fun {L} s a hL=>ks fun hn=> @J2 L _ hn s a hL
theorem aSp{α:Type}{p:α->Bool}{l:List α}{d:α}(ha:l.all p=true){i:Nat}(h:i<l.length):p (l.getD i d)=true:=by
 rw[Aa,Ae h];exact Bg.1 ha _ (At h)
end
theorem bY{R:Type}{call:aX}{h:H}{f:FuncId}{args:List A}{c:List UInt8}{p q:Int}{r:A}{k:KA R}(hm:(env.hint f).mode=0)(ha:idsL args=[])(hr:idsA r=[])(he:call f (.ptr 0 0 0::args) [rdO c p]=some (r,[rdO c q])):
  aZ env call (rdO c p::h) f (.ptr 0 0 0::args) k=k r (rdO c q::h):=by
 have hid:idsL (A.ptr 0 0 0::args)=[0]:=by simp[idsL,idsA,ha]
 have hre:aE aH (rdO c p::h) [0] []=[0]:=rfl;have hpk:pack (rdO c p::h) [0]=[rdO c p]:=rfl
 have hma:aF (aJ [0]) (A.ptr 0 0 0::args)=A.ptr 0 0 0::args:=by
  simp only[aF,fL _ ha];rfl
 unfold aZ;rw[hid,hre,hpk,hma]
 have hc:bT call env.hint [rdO c p] f (.ptr 0 0 0::args)=some (r,[rdO c q]):=by
  unfold bT;rw[hm];exact he
 rw[hc];have hcl:closed (rdO c p::h) [0] [0]=true:=rfl;simp only[Ad,Ac,Ab,hcl,and_self,if_true,sF r hr]
 congr 1
 simp[bI,mapO,aF,mapA]
theorem aDk:(env.hint 49).mode=0:=kr
theorem aMk{a b:Int}(ha:0<=a)(ha2:a<2^62)(hb:0<=b)(hb2:b<2^62):0<=iXor .i64 a b/\iXor .i64 a b<2^62:=by
 obtain⟨m,rfl⟩:=Dn ha;obtain⟨n,rfl⟩:=Dn hb;have hm:m<2^62:=om;have hn:n<2^62:=om
 have hx:(BitVec.ofInt 64 (m:Int)^^^BitVec.ofInt 64 (n:Int)).toNat=m^^^n:=by
  rw[BitVec.toNat_xor]
  congr 1<;>(simp only[BitVec.ofInt_natCast,BitVec.toNat_ofNat];omega)
 have hlt:m^^^n<2^62:=Nat.xor_lt_two_pow hm hn;unfold iXor;have:(BitVec.ofInt IntKind.i64.bits (m:Int)^^^BitVec.ofInt IntKind.i64.bits (n:Int)).toNat=m^^^n:=hx;rw[this,y9 om om];omega
theorem d7{c:List UInt8}(hc:c.length<=2000)(p b:Int)(hp:0<=p)(hp2:p<=1000000000):∃v:Int,0<=v/\(1<=b->v<b)/\(b<1->v=0)/\(Dw 1 49 [nI b] (nI v) c p (p+1)):=by
 by_cases h1:b<1
 ·refine⟨0,by omega,by omega,by omega,fun R L n hq k hn hL=>bY aDk rfl rfl ?_⟩;obtain _|n:=n;omega
  simp-implicitDefEqProofs (maxSteps:=9^7) (disch:=try exact Dz) only[↓DN,↓kAsg,↓kRet,UP,simprocAttr,h1,qS,nX,Tryz.f49]
 ·by_cases h2:c.length=0
  ·refine⟨0,by omega,by omega,by omega,fun R L n hq k hn hL=>bY aDk rfl rfl ?_⟩;have h2':(c.length:Int)=0:=om;obtain _|n:=n;omega
   simp-implicitDefEqProofs (maxSteps:=9^7) (disch:=try exact Dz) only[↓DN,↓kAsg,↓kRet,UP,simprocAttr,h1,h2',qS,nX,Tryz.f49]
  ·have h2':¬(c.length:Int)=0:=om
   by_cases h3:p<c.length
   ·have hb:b≠0:=om;have t0:0<=((c.getD p.toNat 0).toNat:Int).tmod b:=Int.tmod_nonneg b om;have t1:((c.getD p.toNat 0).toNat:Int).tmod b<b:=Int.tmod_lt_of_pos _ om;refine⟨((c.getD p.toNat 0).toNat:Int).tmod b,t0,fun _=>t1,by omega,fun R L n hq k hn hL=>bY aDk rfl rfl ?_⟩;have e1:p+1-1=p:=om;obtain _|n:=n;omega
    simp-implicitDefEqProofs (maxSteps:=9^7) (disch:=try exact Dz) only[↓DN,↓kAsg,↓kRet,UP,simprocAttr,h1,h2',e1,h3,qS,nX,Tryz.f49]
   ·have e1:p+1-1=p:=om;have hl1:(0:Int)<c.length:=om;have q1:0<=p.tmod c.length:=Int.tmod_nonneg _ hp;have q2:p.tmod c.length<c.length:=Int.tmod_lt_of_pos _ hl1;have q3:0<=(p*7+3).tmod c.length:=Int.tmod_nonneg _ om;have q4:(p*7+3).tmod c.length<c.length:=Int.tmod_lt_of_pos _ hl1;have q5:0<=p.tdiv c.length:=Int.tdiv_nonneg hp om;have q6:p.tdiv c.length<=p:=Int.tdiv_le_self _ hp;have b1:=toNat_lt (c.getD (p.tmod c.length).toNat 0);have b2:=toNat_lt (c.getD ((p*7+3).tmod c.length).toNat 0);have r1:(p.tmod c.length).toNat<c.length:=om;have r2:((p*7+3).tmod c.length).toNat<c.length:=om;obtain⟨x,hx⟩:∃x:Int,x=((c.getD (p.tmod c.length).toNat 0).toNat:Int)*131+((c.getD ((p*7+3).tmod c.length).toNat 0).toNat:Int)*1117+p*29+p.tdiv c.length*53:=⟨_,rfl⟩
    have x0:0<=x:=om;have x1:x<2^62:=om;have y0:0<=x.tdiv 64:=Int.tdiv_nonneg x0 om;have y1:x.tdiv 64<2^62:=by have:=Int.tdiv_le_self 64 x0;omega
    have z:=aMk x0 x1 y0 y1;have hb:b≠0:=om;have t0:0<=(iXor .i64 x (x.tdiv 64)).tmod b:=Int.tmod_nonneg b z.1;have t1:(iXor .i64 x (x.tdiv 64)).tmod b<b:=Int.tmod_lt_of_pos _ om;refine⟨(iXor .i64 x (x.tdiv 64)).tmod b,t0,fun _=>t1,by omega,fun R L n hq k hn hL=>bY aDk rfl rfl ?_⟩;clear b1 b2 z t0 t1;have b1:=toNat_lt (c.getD (p.tmod c.length).toNat 0);have b2:=toNat_lt (c.getD ((p*7+3).tmod c.length).toNat 0);subst hx;obtain _|n:=n;omega
    simp-implicitDefEqProofs (maxSteps:=9^7) (disch:=try exact Dz) only[↓DN,↓kAsg,↓kRet,UP,simprocAttr,h1,h2',e1,h3,qS,nX,Tryz.f49]
theorem aS9:(env.hint 62).mode=0:=kr
theorem m_of:(env.hint 87).mode=0:=kr
theorem aNB{R:Type}{call:aX}{hq:H}{f:FuncId}{c:List UInt8}{p q:Int}{r:A}{k:KA R}{cs:List D}{e g n id:Nat}(hi:hq[id]? =some (.arr cs e g))(hm:(env.hint f).mode=0)(hr:idsA r=[])(he:call f [.ptr 0 0 0,.sl 1 g 0 n] [rdO c p,.arr cs e g]=some (r,[rdO c q,.arr cs e g])):
  aZ env call (rdO c p::hq) f [.ptr 0 0 0,.sl (id+1) g 0 n] k=k r (rdO c q::hq):=by
 have hlk:(rdO c p::hq)[id+1]? =some (.arr cs e g):=by rw[Aw];exact hi
 have hre:aE aH (rdO c p::hq) [0,id+1] []=[0,id+1]:=by
  have e1:aE aH (rdO c p::hq) [0,id+1] []=aE (aH-1) (rdO c p::hq) [id+1] [0]:=rfl
  have e2:aE (aH-1) (rdO c p::hq) [id+1] [0]=if [0].contains (id+1)=true then aE (aH-2) (rdO c p::hq) [] [0]else match(rdO c p::hq)[id+1]? with
   |some (.box cs)=>aE (aH-2) (rdO c p::hq) ([]++idsL cs) ([0]++[id+1])
   |some (.vec cs _ _)=>aE (aH-2) (rdO c p::hq) ([]++idsL cs) ([0]++[id+1])
   |some .void=>aE (aH-2) (rdO c p::hq) [] [0]
   |some _=>aE (aH-2) (rdO c p::hq) [] ([0]++[id+1])
   |none=>aE (aH-2) (rdO c p::hq) [] [0]:=rfl
  have e3:[0].contains (id+1)=false:=sm;rw[e1,e2,e3,hlk];rfl
 have hpk:pack (rdO c p::hq) [0,id+1]=[rdO c p,.arr cs e g]:=by
  simp only[pack,Ai,Aq,Aa,hlk]<;>rfl
 unfold aZ;have hid:idsL [A.ptr 0 0 0,A.sl (id+1) g 0 n]=[0,id+1]:=rfl;rw[hid,hre,hpk]
 have hma:aF (aJ [0,id+1]) [A.ptr 0 0 0,A.sl (id+1) g 0 n]=[A.ptr 0 0 0,A.sl 1 g 0 n]:=by
  simp[aF,mapA,aJ]
 rw[hma]
 have hc:bT call env.hint [rdO c p,.arr cs e g] f [.ptr 0 0 0,.sl 1 g 0 n]=some (r,[rdO c q,.arr cs e g]):=by
  unfold bT;rw[hm];exact he
 rw[hc]
 have hcl:closed (rdO c p::hq) [0,id+1] [0,id+1]=true:=by
  simp only[closed,Bt,Cc,hlk,Co];simp[idsL,idsA]
 simp only[Ad,Ac,Ab,hcl,and_self,if_true,sF r hr]
 congr 1
 simp only[bI,mapO,aF,mapA,Aq,Aj,Ci,Bo]
 congr 1
 exact aRs hi
theorem aBJ{α:Type}{l:List α}{k:Nat}{d:α}(h:k<l.length):l.getD k d∈l:=by
 rw[Aa,Ae h];exact At h
theorem aSS{c:List UInt8}(hc:c.length<=2000)(l:List Int)(g:Nat)(hl:0<l.length)(hl2:l.length<1000)(p:Int)(hp:0<=p)(hp2:p<=1000000000):∃v:Int,v∈l/\∀(L n:Nat),2<=n->2^60<=L->aA env L n 62 [.ptr 0 0 0,.sl 1 g 0 l.length] [rdO c p,.arr (ints l) 1 g]=some (nI v,[rdO c (p+1),.arr (ints l) 1 g]):=by
 obtain⟨v,v0,v1,_,kd⟩:=d7 hc p l.length hp hp2;have v1:=v1 om;have hk:v.toNat<l.length:=om;refine⟨l.getD v.toNat 0,aBJ hk,fun L n hn hL=> ?_⟩;obtain _|n:=n;omega
 simp-implicitDefEqProofs (maxSteps:=9^7) (disch:=try exact Dz) only[↓DN,↓kAsg,↓kRet,UP,simprocAttr,↓kd,aEK,SH,Tryz.f62]
theorem yQ{c:List UInt8}(hc:c.length<=2000)(l:List Int)(hl:0<l.length)(hl2:l.length<1000)(p:Int)(hp:0<=p)(hp2:p<=1000000000):∃v:Int,v∈l/\(∀(R:Type) (L n id:Nat) (hq:H) (k:KA R),2<=n->2^60<=L->hq[id]? =some (.arr (ints l) 1 0)->aZ env (aA env L n) (rdO c p::hq) 62 [.ptr 0 0 0,.sl (id+1) 0 0 l.length] k=k (nI v) (rdO c (p+1)::hq)):=by
 obtain⟨v,hv,he⟩:=aSS hc l 0 hl hl2 p hp hp2;exact⟨v,hv,fun R L n id hq k hn hL hi=>aNB hi aS9 rfl (he L n hn hL)⟩
def aM(l:List (List UInt8)):List D:=l.map .str
theorem dZ{l:List (List UInt8)}:(aM l).length=l.length:=by simp[aM]
theorem QQ{l:List (List UInt8)}{k:Nat}(h:k<l.length):(((aM l).drop k).map A.d).head? =some (.d (.str (l.getD k []))):=by
 rw[List.head?_map,Cz,aM,Bd,Aa,Ae h];rfl
theorem aSv{c:List UInt8}(hc:c.length<=2000)(l:List (List UInt8))(hl:0<l.length)(hl2:l.length<1000)(p:Int)(hp:0<=p)(hp2:p<=1000000000):∃v:List UInt8,v∈l/\(Dw 2 87 [.d (.ivs l.length (aM l))] (.d (.str v)) c p (p+1)):=by
 obtain⟨v,v0,v1,_,kd⟩:=d7 hc p l.length hp hp2;have v1:=v1 om;have hk:v.toNat<l.length:=om;refine⟨l.getD v.toNat [],aBJ hk,fun R L n hq k hn hL=>bY m_of rfl rfl ?_⟩;obtain _|n:=n;omega
 simp-implicitDefEqProofs (maxSteps:=9^7) (disch:=try exact Dz) only[↓DN,↓kAsg,↓kRet,UP,simprocAttr,↓kd,dZ,QQ,aHy,U0,Tryz.f87]
theorem aBe{R:Type}{L n:Nat}(hn:1<=n){a:Int}{k:KE R}:∀(i:Int) (m:Nat) (l:List Int) (len:Nat) (h0:0<=i) (hi:i<=6) (hm:6-i<m) (hl:len=l.length) (hlen:(l.length:Int)<=i),
  aS env (aA env L n) L 0 [] Bz54 (A9 0) (Z1 (U1 (Z2 (Z1 (U8 (U4 (U1 ([])))))))) m (nI a::Y1 (.d .nils::.sl 0 0 0 len::nI i::Y8 (Y4 (Y1 ([]))))) [.arr (ints l) 1 0] k
  =k (.exit 0) (nI a::Y1 (.d .nils::.sl 0 0 0 (len+((qL (6-i).toNat).filter (cM a)).length)::nI 6::Y8 (Y4 (Y1 ([]))))) [.arr (ints (l++(qL (6-i).toNat).filter (cM a))) 1 0]:=by
 intro i m l len h0 hi hm hl hlen;obtain⟨j,hj⟩:∃j:Nat,(j:Int)=(6:Int)-i:=⟨((6:Int)-i).toNat,by omega⟩
 induction j generalizing i m l len with
 |zero=>
  obtain _|m:=m;omega;obtain rfl:i=6:=om
  simp-implicitDefEqProofs (maxSteps:=9^7) (disch:=try exact Dz) only[↓DN,↓kRet,UP,simprocAttr,rQ,rA,Tryz.f72];simp only[qL,List.filter_nil,Aj,Ac,Bu]
 |succ j ih=>
  obtain _|m:=m;omega;have hc:i<6:=om;have e1:(6-i).toNat=j+1:=om;have e2:(6-(i+1)).toNat=j:=om;have hr:qL (j+1)=i::qL j:=by simp only[qL];congr 1;omega
  rw[e1,hr,List.filter_cons]
  cases hb:cM a i with
  |true=>
   simp-implicitDefEqProofs (maxSteps:=9^7) (disch:=try exact Dz) only[↓DN,↓kRet,UP,simprocAttr,↓tD,↓ih,hc,hb,e2,rQ,rA,Tryz.f72];simp only[Al,Ax,Ao,Nat.add_assoc,Nat.add_comm 1]
  |false=>
   simp-implicitDefEqProofs (maxSteps:=9^7) (disch:=try exact Dz) only[↓DN,↓kRet,UP,simprocAttr,↓tD,↓ih,hc,hb,e2,rQ,rA,Tryz.f72]
theorem aSV:qL (6-(0:Int)).toNat=[0,1,2,3,4,5]:=rfl
theorem OK{L n:Nat}(hn:2<=n)(a:Int)(hL:2^60<=L):aA env L n 72 [nI a] []=some (.d (.ivs (aB a).length (ints (aB a))),[]):=by
 unfold aB;rw[<-aSV];obtain _|n:=n;omega
 simp-implicitDefEqProofs (maxSteps:=9^7) (disch:=try exact Dz) only[↓DN,↓kAsg,↓kRet,UP,simprocAttr,aPZ,↓aBe,aEN,R4,Tryz.f72]
theorem fS:type_of% fun {L} a hL=>ks fun hn=> @OK L _ hn a hL:=fun {L} a hL=>ks fun hn=> @OK L _ hn a hL
theorem aAG{L n:Nat}(hn:1<=n)(l:Int)(h0:0<=l)(h:l<=5):aA env L n 77 [nI l] []=some (.d (.str [cL l]),[]):=by
 have e:IntKind.u8.wrap (97+l)=((cL l).toNat:Int):=aFo h0 h;have e2:[D.int .u8 ((cL l).toNat:Int)]=bJ [cL l]:=rfl;obtain _|n:=n;omega
 simp-implicitDefEqProofs (maxSteps:=9^7) (disch:=try exact Dz) only[↓DN,↓kAsg,↓kRet,UP,simprocAttr,e,e2,↓NQ,aKy,aCr,Tryz.f77]
theorem MI:type_of% fun {L} l h0 h=>ks fun hn=> @aAG L _ hn l h0 h:=fun {L} l h0 h=>ks fun hn=> @aAG L _ hn l h0 h
end Ev
end Go.Proofs.YthlkcebdfbjdoaaGreat
