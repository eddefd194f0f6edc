/-
  Words: what the functions on words give.
-/
import Derived.Test.YthlkcebdfbjdoaaGreatSortLayX
import Derived.Test.YthlkcebdfbjdoaaGreatMemD
import Derived.Test.YthlkcebdfbjdoaaGreatCopy
set_option linter.unusedSimpArgs false
set_option linter.unusedVariables false
set_option maxRecDepth 8000
set_option maxHeartbeats 4000000
namespace Go.Proofs.YthlkcebdfbjdoaaGreat
namespace Ev
section
variable{R:Type}{L n:Nat}
def ltr(b:UInt8):Int:=(b.toNat:Int)-97
def cK(l:Int):UInt8:=UInt8.ofNat (97+l).toNat
theorem aHp{b:UInt8}:IntKind.i64.wrap ((b.toNat:Int)-97)=ltr b:=vJ (by omega) (by have:=toNat_lt b;omega)
theorem aCc{l:Int}(h0:0<=l)(h:l<=5):IntKind.u8.wrap (97+l)=((cK l).toNat:Int):=by
 rw[aOe (by omega) (by omega)];unfold cK;rw[UInt8.toNat_ofNat'];omega
theorem aB1(hn:1<=n)(s:List UInt8)(i:Int)(h0:0<=i)(h:i<s.length):aA env L n 148 [.d (.str s),nI i] []=some (nI (ltr (s.getD i.toNat 0)),[]):=by
 obtain _|n:=n;omega;simp -implicitDefEqProofs (maxSteps:=2000000) (disch:=try exact Dz) only[↓DN,↓kAsg,↓kRet,UP,simprocAttr,↓IK,aHp,aJ0,aEv,Tryz.f148]
theorem OS:type_of% fun {L} s i h0 h=>ks fun hn=> @aB1 L _ hn s i h0 h:=fun {L} s i h0 h=>ks fun hn=> @aB1 L _ hn s i h0 h
theorem K7(hn:1<=n)(s:List UInt8)(i:Int)(h0:0<=i)(h:i<s.length):aA env L n 42 [.d (.str s),nI i] []=some (nI (if rO (ltr (s.getD i.toNat 0))then ltr (s.getD i.toNat 0)else -1),[]):=by
 obtain _|n:=n;omega;simp -implicitDefEqProofs (maxSteps:=2000000) (disch:=try exact Dz) only[↓DN,↓kAsg,↓kRet,UP,simprocAttr,↓IK,aHp,aCR,NB,Tryz.f42];generalize ltr (s.getD i.toNat 0)=v;unfold rO
 by_cases h1:v<0
 ·have h2:¬0<=v:=by omega
  simp[h1,h2]
 ·have h2:0<=v:=by omega
  by_cases h3:6<=v
  ·have h4:¬v<6:=by omega
   simp[h1,h2,h3,h4]
  ·have h4:v<6:=by omega
   simp[h1,h2,h3,h4]
theorem MC:type_of% fun {L} s i h0 h=>ks fun hn=> @K7 L _ hn s i h0 h:=fun {L} s i h0 h=>ks fun hn=> @K7 L _ hn s i h0 h
theorem E1(hn:1<=n)(l:Int)(h0:0<=l)(h:l<=5):aA env L n 64 [nI l] []=some (.d (.int .u8 (cK l).toNat),[]):=by
 have e:IntKind.u8.wrap (97+l)=((cK l).toNat:Int):=aCc h0 h;obtain _|n:=n;omega;simp -implicitDefEqProofs (maxSteps:=2000000) (disch:=try exact Dz) only[↓DN,↓kAsg,↓kRet,UP,simprocAttr,↓aAV,e,W7,HR,Tryz.f64]
theorem GA:type_of% fun {L} l h0 h=>ks fun hn=> @E1 L _ hn l h0 h:=fun {L} l h0 h=>ks fun hn=> @E1 L _ hn l h0 h
def okB(b:UInt8):Bool:=rO (ltr b)
def eE(s:List UInt8):Bool:=decide (s.length<=50000)&&s.all okB
def upTo{α:Type}(p:α->Bool)(l:List α)(i:Nat):Int:=(i:Int)+((l.drop i).takeWhile p).length
theorem aFB{α:Type}{p:α->Bool}{l:List α}:upTo p l l.length=l.length:=by
 unfold upTo;simp
theorem aA3{α:Type}{p:α->Bool}{l:List α}{i:Nat}{d:α}(h:i<l.length)(hp:p (l.getD i d)=false):upTo p l i=i:=by
 unfold upTo;rw[Aa,Ae h]at hp;simp only[Bb]at hp;rw[Dn h,List.takeWhile_cons,hp];simp
theorem aHd{α:Type}{p:α->Bool}{l:List α}{i:Nat}{d:α}(h:i<l.length)(hp:p (l.getD i d)=true):upTo p l i=upTo p l (i+1):=by
 unfold upTo;rw[Aa,Ae h]at hp;simp only[Bb]at hp;rw[Dn h,List.takeWhile_cons,hp]
 simp;omega
theorem aFH{α:Type}{p:α->Bool}{l:List α}{i:Nat}{d:α}(h:i<l.length)(hp:p (l.getD i d)=false):(l.drop i).all p=false:=by
 rw[Aa,Ae h]at hp;simp only[Bb]at hp;rw[Dn h,Bp,hp];rfl
theorem aKi{α:Type}{p:α->Bool}{l:List α}{i:Nat}{d:α}(h:i<l.length)(hp:p (l.getD i d)=true):(l.drop i).all p=(l.drop (i+1)).all p:=by
 rw[Aa,Ae h]at hp;simp only[Bb]at hp;rw[Dn h,Bp,hp];rfl
theorem DS(hn:1<=n){s:List UInt8}(hs:s.length<4294967296){k:KE R}:∀(i:Int) (m:Nat) (h0:0<=i) (hi:i<=s.length) (hm:(s.length:Int)-i<m),
  aM env (aA env L n) L 0 [] Bz52 (lR 0) (Z1 (U1 (Z2 (U16 (U2 (U1 ([]))))))) m (.d (.str s)::Y1 (.d (.bool false)::nI i::Y16 (Y2 (Y1 ([]))))) [] k
  =if(s.drop i.toNat).all okB then k (.exit 0) (.d (.str s)::Y1 (.d (.bool false)::nI (upTo okB s i.toNat)::Y16 (Y2 (Y1 ([]))))) []else k .ret (.d (.str s)::Y1 (.d (.bool false)::nI (upTo okB s i.toNat)::Y16 (Y2 (Y1 ([]))))) []:=by
 intro i m h0 hi hm;obtain⟨j,hj⟩:∃j:Nat,(j:Int)=(s.length:Int)-i:=⟨((s.length:Int)-i).toNat,by omega⟩
 induction j generalizing i m with
 |zero=>
  obtain _|m:=m;omega;obtain rfl:i=s.length:=by omega
  simp -implicitDefEqProofs (maxSteps:=2000000) (disch:=try exact Dz) only[↓DN,↓kRet,UP,simprocAttr,Aj,kO,kR,Tryz.f136];simp only[Ca,Bz,if_true,aFB]
 |succ j ih=>
  obtain _|m:=m;omega;have hc:i<s.length:=by omega
  have hk:i.toNat<s.length:=by omega
  have e1:(i+1).toNat=i.toNat+1:=by omega
  cases hb:okB (s.getD i.toNat 0)with
  |true=>
   have hb':=hb;unfold okB rO at hb';simp only[decide_eq_true_eq]at hb';have n1:¬ltr (s.getD i.toNat 0)<0:=by omega
   have n2:¬6<=ltr (s.getD i.toNat 0):=by omega
   simp -implicitDefEqProofs (maxSteps:=2000000) (disch:=try exact Dz) only[↓DN,↓kRet,UP,simprocAttr,hc,↓OS,n1,n2,↓ih,kO,kR,Tryz.f136];rw[e1,aKi hk hb,aHd hk hb]
  |false=>
   have hb':=hb;unfold okB rO at hb';simp only[decide_eq_false_iff_not]at hb';rw[aFH hk hb,aA3 hk hb]
   by_cases n1:ltr (s.getD i.toNat 0)<0
   ·simp -implicitDefEqProofs (maxSteps:=2000000) (disch:=try exact Dz) only[↓DN,↓kAsg,↓kRet,UP,simprocAttr,hc,↓OS,n1,kO,kR,Tryz.f136];rw[Cq h0]
   ·have n2:6<=ltr (s.getD i.toNat 0):=by omega
    simp -implicitDefEqProofs (maxSteps:=2000000) (disch:=try exact Dz) only[↓DN,↓kAsg,↓kRet,UP,simprocAttr,hc,↓OS,n1,n2,kO,kR,Tryz.f136];rw[Cq h0]
theorem IV(hn:2<=n)(s:List UInt8)(hL:2^60<=L):aA env L n 136 [.d (.str s)] []=some (.d (.bool (eE s)),[]):=by
 unfold eE
 by_cases hs:s.length<=50000
 ·have hs':¬(50000:Int)<s.length:=by omega
  cases ha:s.all okB with
  |true=>
   obtain _|n:=n;omega;simp -implicitDefEqProofs (maxSteps:=2000000) (disch:=try exact Dz) only[↓DN,↓kAsg,↓kRet,UP,simprocAttr,hs',↓DS,ha,xP,tB,Tryz.f136];simp[hs]
  |false=>
   obtain _|n:=n;omega;simp -implicitDefEqProofs (maxSteps:=2000000) (disch:=try exact Dz) only[↓DN,↓kAsg,↓kRet,UP,simprocAttr,hs',↓DS,ha,xP,tB,Tryz.f136]
   all_goals simp
 ·have hs':(50000:Int)<s.length:=by omega
  obtain _|n:=n;omega;simp -implicitDefEqProofs (maxSteps:=2000000) (disch:=try exact Dz) only[↓DN,↓kAsg,↓kRet,UP,simprocAttr,hs',xP,tB,Tryz.f136];simp[hs]
theorem xY:type_of% fun {L} s hL=>ks fun hn=> @IV L _ hn s hL:=fun {L} s hL=>ks fun hn=> @IV L _ hn s hL
def inB(a:Int)(b:UInt8):Bool:=okB b&&eT a (ltr b)
def lY(a:Int)(s:List UInt8):Bool:=jB a&&decide (s.length<=50000)&&s.all (inB a)
theorem aI1{a:Int}{b:UInt8}:(decide (0<=(if rO (ltr b)then ltr b else -1))&&eT a (if rO (ltr b)then ltr b else -1))=inB a b:=by
 unfold inB okB
 cases h:rO (ltr b)with
 |true=>
  have:=aJx.1 h;have h2:0<=ltr b:=by omega
  simp[h2]
 |false=>simp
theorem AU(hn:1<=n){s:List UInt8}{a:Int}(hs:s.length<4294967296){k:KE R}:∀(i:Int) (m:Nat) (h0:0<=i) (hi:i<=s.length) (hm:(s.length:Int)-i<m),
  aM env (aA env L n) L 0 [] Bz40 (kU 0) (Z2 (U2 (Z1 (U8 (U2 (Z2 (U8 (U1 ([]))))))))) m (.d (.str s)::nI a::Y2 (.d (.bool false)::Y8 (Y2 (nI (s.length)::nI i::Y8 (Y1 ([])))))) [] k
  =if(s.drop i.toNat).all (inB a)then k (.exit 0) (.d (.str s)::nI a::Y2 (.d (.bool false)::Y8 (Y2 (nI (s.length)::nI (upTo (inB a) s i.toNat)::Y8 (Y1 ([])))))) []else k .ret (.d (.str s)::nI a::Y2 (.d (.bool false)::Y8 (Y2 (nI (s.length)::nI (upTo (inB a) s i.toNat)::Y8 (Y1 ([])))))) []:=by
 intro i m h0 hi hm;obtain⟨j,hj⟩:∃j:Nat,(j:Int)=(s.length:Int)-i:=⟨((s.length:Int)-i).toNat,by omega⟩
 induction j generalizing i m with
 |zero=>
  obtain _|m:=m;omega;obtain rfl:i=s.length:=by omega
  simp -implicitDefEqProofs (maxSteps:=2000000) (disch:=try exact Dz) only[↓DN,↓kRet,UP,simprocAttr,Aj,oM,m8,Tryz.f12];simp only[Ca,Bz,if_true,aFB]
 |succ j ih=>
  obtain _|m:=m;omega;have hc:i<s.length:=by omega
  have hk:i.toNat<s.length:=by omega
  have e1:(i+1).toNat=i.toNat+1:=by omega
  cases hb:inB a (s.getD i.toNat 0)with
  |true=>
   simp -implicitDefEqProofs (maxSteps:=2000000) (disch:=try exact Dz) only[↓DN,↓kRet,UP,simprocAttr,hc,↓MC,↓KX,aI1,hb,↓ih,oM,m8,Tryz.f12];rw[e1,aKi hk hb,aHd hk hb]
  |false=>
   rw[aFH hk hb,aA3 hk hb];simp -implicitDefEqProofs (maxSteps:=2000000) (disch:=try exact Dz) only[↓DN,↓kAsg,↓kRet,UP,simprocAttr,hc,↓MC,↓KX,aI1,hb,oM,m8,Tryz.f12];rw[Cq h0]
theorem FZ(hn:2<=n)(s:List UInt8)(a:Int)(hL:2^60<=L):aA env L n 12 [.d (.str s),nI a] []=some (.d (.bool (lY a s)),[]):=by
 unfold lY
 cases hal:jB a with
 |false=>
  obtain _|n:=n;omega;simp -implicitDefEqProofs (maxSteps:=2000000) (disch:=try exact Dz) only[↓DN,↓kAsg,↓kRet,UP,simprocAttr,↓dY,hal,pC,mA,Tryz.f12]
  all_goals rfl
 |true=>
  by_cases hs:s.length<=50000
  ·have hs':¬(50000:Int)<s.length:=by omega
   cases ha:s.all (inB a)with
   |true=>
    obtain _|n:=n;omega;simp -implicitDefEqProofs (maxSteps:=2000000) (disch:=try exact Dz) only[↓DN,↓kAsg,↓kRet,UP,simprocAttr,↓dY,hal,hs',↓AU,ha,pC,mA,Tryz.f12];simp[hs]
   |false=>
    obtain _|n:=n;omega;simp -implicitDefEqProofs (maxSteps:=2000000) (disch:=try exact Dz) only[↓DN,↓kAsg,↓kRet,UP,simprocAttr,↓dY,hal,hs',↓AU,ha,pC,mA,Tryz.f12]
    all_goals simp
  ·have hs':(50000:Int)<s.length:=by omega
   obtain _|n:=n;omega;simp -implicitDefEqProofs (maxSteps:=2000000) (disch:=try exact Dz) only[↓DN,↓kAsg,↓kRet,UP,simprocAttr,↓dY,hal,hs',pC,mA,Tryz.f12];simp[hs]
theorem X9:type_of% fun {L} s a hL=>ks fun hn=> @FZ L _ hn s a hL:=fun {L} s a hL=>ks fun hn=> @FZ L _ hn s a hL
end
theorem b5{R:Type}{call:aX}{h:H}{f:FuncId}{args:List A}{c:List UInt8}{p q:Int}{r:A}{k:KA R}(hm:(env.hint f).mode=0)(ha:idsL args=[])(hr:idsA r=[])(he:call f (.ptr 0 0 0::args) [rdO c p]=some (r,[rdO c q])):
  aZ env call (rdO c p::h) f (.ptr 0 0 0::args) k=k r (rdO c q::h):=by
 have hid:idsL (A.ptr 0 0 0::args)=[0]:=by simp[idsL,idsA,ha]
 have hre:aD aG (rdO c p::h) [0] []=[0]:=rfl;have hpk:pack (rdO c p::h) [0]=[rdO c p]:=rfl
 have hma:aE (aI [0]) (A.ptr 0 0 0::args)=A.ptr 0 0 0::args:=by
  simp only[aE,gL _ ha];rfl
 unfold aZ;rw[hid,hre,hpk,hma]
 have hc:bV call env.hint [rdO c p] f (.ptr 0 0 0::args)=some (r,[rdO c q]):=by
  unfold bV;rw[hm];exact he
 rw[hc];have hcl:closed (rdO c p::h) [0] [0]=true:=rfl;simp only[Ad,Ac,Ab,hcl,and_self,if_true,qI r hr]
 congr 1
 simp[bJ,mapO,aE,mapA]
theorem WI:(env.hint 49).mode=0:=kr
theorem aH9{a b:Int}(ha:0<=a)(ha2:a<2^62)(hb:0<=b)(hb2:b<2^62):0<=iXor .i64 a b/\iXor .i64 a b<2^62:=by
 obtain⟨m,rfl⟩:=Dh ha;obtain⟨n,rfl⟩:=Dh hb;have hm:m<2^62:=by omega
 have hn:n<2^62:=by omega
 have hx:(BitVec.ofInt 64 (m:Int)^^^BitVec.ofInt 64 (n:Int)).toNat=m^^^n:=by
  rw[BitVec.toNat_xor]
  congr 1<;>(simp only[BitVec.ofInt_natCast,BitVec.toNat_ofNat];omega)
 have hlt:m^^^n<2^62:=Nat.xor_lt_two_pow hm hn;unfold iXor;have:(BitVec.ofInt IntKind.i64.bits (m:Int)^^^BitVec.ofInt IntKind.i64.bits (n:Int)).toNat=m^^^n:=hx;rw[this,vJ (by omega) (by omega)];omega
theorem eJ{c:List UInt8}(hc:c.length<=2000)(p b:Int)(hp:0<=p)(hp2:p<=1000000000):∃v:Int,0<=v/\(1<=b->v<b)/\(b<1->v=0)/\(Dw 1 49 [nI b] (nI v) c p (p+1)):=by
 by_cases h1:b<1
 ·refine⟨0,by omega,by omega,by omega,fun R L n hq k hn hL=>b5 WI rfl rfl ?_⟩;obtain _|n:=n;omega;simp -implicitDefEqProofs (maxSteps:=2000000) (disch:=try exact Dz) only[↓DN,↓kAsg,↓kRet,UP,simprocAttr,h1,oY,lS,Tryz.f49]
 ·by_cases h2:c.length=0
  ·refine⟨0,by omega,by omega,by omega,fun R L n hq k hn hL=>b5 WI rfl rfl ?_⟩;have h2':(c.length:Int)=0:=by omega
   obtain _|n:=n;omega;simp -implicitDefEqProofs (maxSteps:=2000000) (disch:=try exact Dz) only[↓DN,↓kAsg,↓kRet,UP,simprocAttr,h1,h2',oY,lS,Tryz.f49]
  ·have h2':¬(c.length:Int)=0:=by omega
   by_cases h3:p<c.length
   ·have hb:b≠0:=by omega
    have t0:0<=((c.getD p.toNat 0).toNat:Int).tmod b:=Int.tmod_nonneg b (by omega);have t1:((c.getD p.toNat 0).toNat:Int).tmod b<b:=Int.tmod_lt_of_pos _ (by omega);refine⟨((c.getD p.toNat 0).toNat:Int).tmod b,t0,fun _=>t1,by omega,fun R L n hq k hn hL=>b5 WI rfl rfl ?_⟩;have e1:p+1-1=p:=by omega
    obtain _|n:=n;omega;simp -implicitDefEqProofs (maxSteps:=2000000) (disch:=try exact Dz) only[↓DN,↓kAsg,↓kRet,UP,simprocAttr,h1,h2',e1,h3,oY,lS,Tryz.f49]
   ·have e1:p+1-1=p:=by omega
    have hl1:(0:Int)<c.length:=by omega
    have q1:0<=p.tmod c.length:=Int.tmod_nonneg _ hp;have q2:p.tmod c.length<c.length:=Int.tmod_lt_of_pos _ hl1;have q3:0<=(p*7+3).tmod c.length:=Int.tmod_nonneg _ (by omega);have q4:(p*7+3).tmod c.length<c.length:=Int.tmod_lt_of_pos _ hl1;have q5:0<=p.tdiv c.length:=Int.tdiv_nonneg hp (by omega);have q6:p.tdiv c.length<=p:=Int.tdiv_le_self _ hp;have b1:=toNat_lt (c.getD (p.tmod c.length).toNat 0);have b2:=toNat_lt (c.getD ((p*7+3).tmod c.length).toNat 0);have r1:(p.tmod c.length).toNat<c.length:=by omega
    have r2:((p*7+3).tmod c.length).toNat<c.length:=by omega
    obtain⟨x,hx⟩:∃x:Int,x=((c.getD (p.tmod c.length).toNat 0).toNat:Int)*131+((c.getD ((p*7+3).tmod c.length).toNat 0).toNat:Int)*1117+p*29+p.tdiv c.length*53:=⟨_,rfl⟩
    have x0:0<=x:=by omega
    have x1:x<2^62:=by omega
    have y0:0<=x.tdiv 64:=Int.tdiv_nonneg x0 (by omega);have y1:x.tdiv 64<2^62:=by have:=Int.tdiv_le_self 64 x0;omega
    have z:=aH9 x0 x1 y0 y1;have hb:b≠0:=by omega
    have t0:0<=(iXor .i64 x (x.tdiv 64)).tmod b:=Int.tmod_nonneg b z.1;have t1:(iXor .i64 x (x.tdiv 64)).tmod b<b:=Int.tmod_lt_of_pos _ (by omega);refine⟨(iXor .i64 x (x.tdiv 64)).tmod b,t0,fun _=>t1,by omega,fun R L n hq k hn hL=>b5 WI rfl rfl ?_⟩;clear b1 b2 z t0 t1;have b1:=toNat_lt (c.getD (p.tmod c.length).toNat 0);have b2:=toNat_lt (c.getD ((p*7+3).tmod c.length).toNat 0);subst hx;obtain _|n:=n;omega;simp -implicitDefEqProofs (maxSteps:=2000000) (disch:=try exact Dz) only[↓DN,↓kAsg,↓kRet,UP,simprocAttr,h1,h2',e1,h3,oY,lS,Tryz.f49]
theorem aOa:(env.hint 62).mode=0:=kr
theorem m_of:(env.hint 87).mode=0:=kr
theorem aIS{R:Type}{call:aX}{hq:H}{f:FuncId}{c:List UInt8}{p q:Int}{r:A}{k:KA R}{cs:List D}{e g n id:Nat}(hi:hq[id]? =some (.arr cs e g))(hm:(env.hint f).mode=0)(hr:idsA r=[])(he:call f [.ptr 0 0 0,.sl 1 g 0 n] [rdO c p,.arr cs e g]=some (r,[rdO c q,.arr cs e g])):
  aZ env call (rdO c p::hq) f [.ptr 0 0 0,.sl (id+1) g 0 n] k=k r (rdO c q::hq):=by
 have hlk:(rdO c p::hq)[id+1]? =some (.arr cs e g):=by rw[Au];exact hi
 have hre:aD aG (rdO c p::hq) [0,id+1] []=[0,id+1]:=by
  have e1:aD aG (rdO c p::hq) [0,id+1] []=aD (aG-1) (rdO c p::hq) [id+1] [0]:=rfl
  have e2:aD (aG-1) (rdO c p::hq) [id+1] [0]=if [0].contains (id+1)=true then aD (aG-2) (rdO c p::hq) [] [0]else match(rdO c p::hq)[id+1]? with
   |some (.box cs)=>aD (aG-2) (rdO c p::hq) ([]++idsL cs) ([0]++[id+1])
   |some (.vec cs _ _)=>aD (aG-2) (rdO c p::hq) ([]++idsL cs) ([0]++[id+1])
   |some .void=>aD (aG-2) (rdO c p::hq) [] [0]
   |some _=>aD (aG-2) (rdO c p::hq) [] ([0]++[id+1])
   |none=>aD (aG-2) (rdO c p::hq) [] [0]:=rfl
  have e3:[0].contains (id+1)=false:=by simp
  rw[e1,e2,e3,hlk];rfl
 have hpk:pack (rdO c p::hq) [0,id+1]=[rdO c p,.arr cs e g]:=by
  simp only[pack,Ah,Ap,Aa,hlk];rfl
 unfold aZ;have hid:idsL [A.ptr 0 0 0,A.sl (id+1) g 0 n]=[0,id+1]:=rfl;rw[hid,hre,hpk]
 have hma:aE (aI [0,id+1]) [A.ptr 0 0 0,A.sl (id+1) g 0 n]=[A.ptr 0 0 0,A.sl 1 g 0 n]:=by
  simp[aE,mapA,aI]
 rw[hma]
 have hc:bV call env.hint [rdO c p,.arr cs e g] f [.ptr 0 0 0,.sl 1 g 0 n]=some (r,[rdO c q,.arr cs e g]):=by
  unfold bV;rw[hm];exact he
 rw[hc]
 have hcl:closed (rdO c p::hq) [0,id+1] [0,id+1]=true:=by
  simp only[closed,Bp,Bz,hlk,Cm];simp[idsL,idsA]
 simp only[Ad,Ac,Ab,hcl,and_self,if_true,qI r hr]
 congr 1
 simp only[bJ,mapO,aE,mapA,Ap,Ai,Cd,Bl]
 congr 1
 exact aM2 hi
theorem VC{α:Type}{l:List α}{k:Nat}{d:α}(h:k<l.length):l.getD k d∈l:=by
 rw[Aa,Ae h];exact Az h
theorem aNQ{c:List UInt8}(hc:c.length<=2000)(l:List Int)(g:Nat)(hl:0<l.length)(hl2:l.length<1000)(p:Int)(hp:0<=p)(hp2:p<=1000000000):∃v:Int,v∈l/\∀(L n:Nat),2<=n->2^60<=L->aA env L n 62 [.ptr 0 0 0,.sl 1 g 0 l.length] [rdO c p,.arr (ints l) 1 g]=some (nI v,[rdO c (p+1),.arr (ints l) 1 g]):=by
 obtain⟨v,v0,v1,_,kd⟩:=eJ hc p l.length hp hp2;have v1:=v1 (by omega);have hk:v.toNat<l.length:=by omega
 refine⟨l.getD v.toNat 0,VC hk,fun L n hn hL=> ?_⟩;obtain _|n:=n;omega;simp -implicitDefEqProofs (maxSteps:=2000000) (disch:=try exact Dz) only[↓DN,↓kAsg,↓kRet,UP,simprocAttr,↓kd,aAa,LK,Tryz.f62]
theorem uV{c:List UInt8}(hc:c.length<=2000)(l:List Int)(hl:0<l.length)(hl2:l.length<1000)(p:Int)(hp:0<=p)(hp2:p<=1000000000):∃v:Int,v∈l/\(∀(R:Type) (L n id:Nat) (hq:H) (k:KA R),2<=n->2^60<=L->hq[id]? =some (.arr (ints l) 1 0)->aZ env (aA env L n) (rdO c p::hq) 62 [.ptr 0 0 0,.sl (id+1) 0 0 l.length] k=k (nI v) (rdO c (p+1)::hq)):=by
 obtain⟨v,hv,he⟩:=aNQ hc l 0 hl hl2 p hp hp2;exact⟨v,hv,fun R L n id hq k hn hL hi=>aIS hi aOa rfl (he L n hn hL)⟩
def aL(l:List (List UInt8)):List D:=l.map .str
theorem d9{l:List (List UInt8)}:(aL l).length=l.length:=by simp[aL]
theorem KJ{l:List (List UInt8)}{k:Nat}(h:k<l.length):(((aL l).drop k).map A.d).head? =some (.d (.str (l.getD k []))):=by
 rw[List.head?_map,Cy,aL,Bd,Aa,Ae h];rfl
theorem aNH{c:List UInt8}(hc:c.length<=2000)(l:List (List UInt8))(hl:0<l.length)(hl2:l.length<1000)(p:Int)(hp:0<=p)(hp2:p<=1000000000):∃v:List UInt8,v∈l/\(Dw 2 87 [.d (.ivs l.length (aL l))] (.d (.str v)) c p (p+1)):=by
 obtain⟨v,v0,v1,_,kd⟩:=eJ hc p l.length hp hp2;have v1:=v1 (by omega);have hk:v.toNat<l.length:=by omega
 refine⟨l.getD v.toNat [],VC hk,fun R L n hq k hn hL=>b5 m_of rfl rfl ?_⟩;obtain _|n:=n;omega;simp -implicitDefEqProofs (maxSteps:=2000000) (disch:=try exact Dz) only[↓DN,↓kAsg,↓kRet,UP,simprocAttr,↓kd,d9,KJ,aCT,M6,Tryz.f87]
theorem UU{R:Type}{L n:Nat}(hn:1<=n){a:Int}{k:KE R}:∀(i:Int) (m:Nat) (l:List Int) (len:Nat) (h0:0<=i) (hi:i<=6) (hm:6-i<m) (hl:len=l.length) (hlen:(l.length:Int)<=i),
  aM env (aA env L n) L 0 [] Bz45 (mC 0) (Z1 (U1 (Z2 (Z1 (U8 (U4 (U1 ([])))))))) m (nI a::Y1 (.d .nils::.sl 0 0 0 len::nI i::Y8 (Y4 (Y1 ([]))))) [.arr (ints l) 1 0] k
  =k (.exit 0) (nI a::Y1 (.d .nils::.sl 0 0 0 (len+((o9 (6-i).toNat).filter (eT a)).length)::nI 6::Y8 (Y4 (Y1 ([]))))) [.arr (ints (l++(o9 (6-i).toNat).filter (eT a))) 1 0]:=by
 intro i m l len h0 hi hm hl hlen;obtain⟨j,hj⟩:∃j:Nat,(j:Int)=(6:Int)-i:=⟨((6:Int)-i).toNat,by omega⟩
 induction j generalizing i m l len with
 |zero=>
  obtain _|m:=m;omega;obtain rfl:i=6:=by omega
  simp -implicitDefEqProofs (maxSteps:=2000000) (disch:=try exact Dz) only[↓DN,↓kRet,UP,simprocAttr,pY,oQ,Tryz.f72];simp only[o9,List.filter_nil,Ai,Ac,Br]
 |succ j ih=>
  obtain _|m:=m;omega;have hc:i<6:=by omega
  have e1:(6-i).toNat=j+1:=by omega
  have e2:(6-(i+1)).toNat=j:=by omega
  have hr:o9 (j+1)=i::o9 j:=by simp only[o9];congr 1;omega
  rw[e1,hr,List.filter_cons]
  cases hb:eT a i with
  |true=>
   simp -implicitDefEqProofs (maxSteps:=2000000) (disch:=try exact Dz) only[↓DN,↓kRet,UP,simprocAttr,↓qY,↓ih,hc,hb,e2,pY,oQ,Tryz.f72];simp only[Am,Av,Ao,Nat.add_assoc,Nat.add_comm 1]
  |false=>
   simp -implicitDefEqProofs (maxSteps:=2000000) (disch:=try exact Dz) only[↓DN,↓kRet,UP,simprocAttr,↓qY,↓ih,hc,hb,e2,pY,oQ,Tryz.f72]
theorem aNJ:o9 (6-(0:Int)).toNat=[0,1,2,3,4,5]:=rfl
theorem IA{L n:Nat}(hn:2<=n)(a:Int)(hL:2^60<=L):aA env L n 72 [nI a] []=some (.d (.ivs (aB a).length (ints (aB a))),[]):=by
 unfold aB;rw[<-aNJ];obtain _|n:=n;omega;simp -implicitDefEqProofs (maxSteps:=2000000) (disch:=try exact Dz) only[↓DN,↓kAsg,↓kRet,UP,simprocAttr,aLH,↓UU,aAu,LE,Tryz.f72]
theorem fR:type_of% fun {L} a hL=>ks fun hn=> @IA L _ hn a hL:=fun {L} a hL=>ks fun hn=> @IA L _ hn a hL
theorem SY{L n:Nat}(hn:1<=n)(l:Int)(h0:0<=l)(h:l<=5):aA env L n 77 [nI l] []=some (.d (.str [cK l]),[]):=by
 have e:IntKind.u8.wrap (97+l)=((cK l).toNat:Int):=aCc h0 h;have e2:[D.int .u8 ((cK l).toNat:Int)]=bI [cK l]:=rfl;obtain _|n:=n;omega;simp -implicitDefEqProofs (maxSteps:=2000000) (disch:=try exact Dz) only[↓DN,↓kAsg,↓kRet,UP,simprocAttr,e,e2,↓IY,aGh,ZR,Tryz.f77]
theorem G7:type_of% fun {L} l h0 h=>ks fun hn=> @SY L _ hn l h0 h:=fun {L} l h0 h=>ks fun hn=> @SY L _ hn l h0 h
theorem QA{c:List UInt8}(hc:c.length<=2000){al st i9:Int}{w:Nat}(hw:w<=6){d:List (List Int)}(hdl:d.length<=4294967296){cs:List D}{z:Nat}:∀(j i:Nat) (p:Int) (o:List Int) (hi:i+j=w) (ho:o.length=i) (hp:0<=p) (hp2:p+j<=1000000000),
  ∃(r:List Int) (q:Int),r.length=w/\q=p+j/\∀(R:Type) (L n m:Nat) (k:KE R),2<=n->2^60<=L->j<m->
  aM env (aA env L n) L 1 (W32 (W4 (W1 [1002]))) Bz5 (d8 1) Bz30 m (.ptr 0 0 0::Y1 (nI st::Y2 (Y1 (.ptr 1 0 0::.ptr 2 0 0::nI w::nI i9::.sl 3 0 0 i::nI i::Y32 (Y4 (Y1 ([]))))))) (rdO c p::.box [nI 0,.sl 4 0 0 0,.sl 5 0 0 0]::.box [nI al,.sl 6 0 0 d.length,.sl 7 0 0 z]::.arr (ints o) 1 0::.arr [] 0 0::.arr [] 0 0::.vec (aC 8 d++aF 0) 1 0::.arr cs 1 0::aH d) k
  =k (.exit 2) (.ptr 0 0 0::Y1 (nI st::Y2 (Y1 (.ptr 1 0 0::.ptr 2 0 0::nI w::nI i9::.sl 3 0 0 w::nI w::Y32 (Y4 (Y1 ([]))))))) (rdO c q::.box [nI 0,.sl 4 0 0 0,.sl 5 0 0 0]::.box [nI al,.sl 6 0 0 d.length,.sl 7 0 0 z]::.arr (ints r) 1 0::.arr [] 0 0::.arr [] 0 0::.vec (aC 8 d++aF 0) 1 0::.arr cs 1 0::aH d):=by
 intro j
 induction j with
 |zero=>
  intro i p o hi ho hp hp2;obtain rfl:i=w:=by omega
  refine⟨o,p,ho,by omega,fun R L n m k hn hL hm=> ?_⟩;obtain _|m:=m;omega;subst ho;simp -implicitDefEqProofs (maxSteps:=2000000) (disch:=try exact Dz) only[↓DN,↓kRet,UP,simprocAttr,Aj,↓aLk,lM,mD,Tryz.f61]
 |succ j ih=>
  intro i p o hi ho hp hp2;obtain⟨v,v0,v1,v2,kd⟩:=eJ hc p st hp (by omega);obtain⟨r,q,g1,g2,kd2⟩:=ih (i+1) (p+1) (o++[v]) (by omega) (by simp;omega) (by omega) (by omega);refine⟨r,q,g1,by omega,fun R L n m k hn hL hm=> ?_⟩;obtain _|m:=m;omega;have kd2':=kd2 R L n m k hn hL (by omega);rw[cs1 i]at kd2';have hc1:(i:Int)<w:=by omega
  subst ho;clear ih kd2;simp -implicitDefEqProofs (maxSteps:=2000000) (disch:=try exact Dz) only[↓DN,↓kRet,UP,simprocAttr,hc1,↓kd,↓kd2',cA,sI,↓aMD,lM,mD,Tryz.f61]
theorem MV{c:List UInt8}(hc:c.length<=2000){al st i9:Int}{w:Nat}(hw:w<=6){cs:List D}{z:Nat}:∀(j i:Nat) (p:Int) (o:List Int) (hi:i+j=w) (ho:o.length=i) (hp:0<=p) (hp2:p+j<=1000000000),
  ∃(r:List Int) (q:Int),r.length=w/\q=p+j/\∀(R:Type) (L n m:Nat) (k:KE R),2<=n->2^60<=L->j<m->
  aM env (aA env L n) L 1 (W32 (W4 (W1 [1002]))) Bz5 (d8 1) Bz30 m (.ptr 0 0 0::Y1 (nI st::Y2 (Y1 (.ptr 1 0 0::.ptr 2 0 0::nI w::nI i9::.sl 3 0 0 i::nI i::Y32 (Y4 (Y1 ([]))))))) (rdO c p::.box [nI 0,.sl 4 0 0 0,.sl 5 0 0 0]::.box [nI al,.sl 6 0 0 0,.sl 7 0 0 z]::.arr (ints o) 1 0::.arr [] 0 0::.arr [] 0 0::.arr [] 0 0::.arr cs 0 0::[]) k
  =k (.exit 2) (.ptr 0 0 0::Y1 (nI st::Y2 (Y1 (.ptr 1 0 0::.ptr 2 0 0::nI w::nI i9::.sl 3 0 0 w::nI w::Y32 (Y4 (Y1 ([]))))))) (rdO c q::.box [nI 0,.sl 4 0 0 0,.sl 5 0 0 0]::.box [nI al,.sl 6 0 0 0,.sl 7 0 0 z]::.arr (ints r) 1 0::.arr [] 0 0::.arr [] 0 0::.arr [] 0 0::.arr cs 0 0::[]):=by
 intro j
 induction j with
 |zero=>
  intro i p o hi ho hp hp2;obtain rfl:i=w:=by omega
  refine⟨o,p,ho,by omega,fun R L n m k hn hL hm=> ?_⟩;obtain _|m:=m;omega;subst ho;simp -implicitDefEqProofs (maxSteps:=2000000) (disch:=try exact Dz) only[↓DN,↓kRet,UP,simprocAttr,Aj,lM,mD,Tryz.f61]
 |succ j ih=>
  intro i p o hi ho hp hp2;obtain⟨v,v0,v1,v2,kd⟩:=eJ hc p st hp (by omega);obtain⟨r,q,g1,g2,kd2⟩:=ih (i+1) (p+1) (o++[v]) (by omega) (by simp;omega) (by omega) (by omega);refine⟨r,q,g1,by omega,fun R L n m k hn hL hm=> ?_⟩;obtain _|m:=m;omega;have kd2':=kd2 R L n m k hn hL (by omega);rw[cs1 i]at kd2';have hc1:(i:Int)<w:=by omega
  subst ho;clear ih kd2;simp -implicitDefEqProofs (maxSteps:=2000000) (disch:=try exact Dz) only[↓DN,↓kRet,UP,simprocAttr,hc1,↓kd,↓kd2',lM,mD,Tryz.f61]
theorem aMs{m:List Bool}{s:List A}{y1 y2 x0 x1:D}{k z rl:Nat}{r:List Int}{cs:List D}{d:List (List Int)}{p:H}(hr:rl=r.length)(hl:d.length<=4294967296):gc 1 m s (.box [.d y1,.d y2]::.box [.d x0,.sl 4 0 0 0,.sl 5 0 0 0]::.box [.d x1,.sl 6 1 0 k,.sl 7 1 0 z]::.arr (ints r) 1 0::.arr [] 0 0::.arr [] 0 0::.vec (aC 8 d++[.sl 3 0 0 rl]) 1 1::.arr cs 1 1::(aH d++p))=match box (tidy m s)with
  |.mk s1=>if idsL s1=[0,1,2]then(s1,.box [.d y1,.d y2]::.box [.d x0,.sl 3 0 0 0,.sl 4 0 0 0]::.box [.d x1,.sl 5 0 0 k,.sl 6 0 0 z]::.arr [] 0 0::.arr [] 0 0::.vec (aC 7 (d++[r])++aF 0) 1 0::.arr cs 1 0::aH (d++[r]))else gcO 1 m s (.box [.d y1,.d y2]::.box [.d x0,.sl 4 0 0 0,.sl 5 0 0 0]::.box [.d x1,.sl 6 1 0 k,.sl 7 1 0 z]::.arr (ints r) 1 0::.arr [] 0 0::.arr [] 0 0::.vec (aC 8 d++[.sl 3 0 0 rl]) 1 1::.arr cs 1 1::(aH d++p))
  |.no=>([],[]):=by
 have hn:aF 0=[]:=rfl;subst hr;rw[aMN hl,<-GY,BJ,hn,Ai,Nat.add_comm 7];simp only[box]
 split
 ·rename_i hid
  rw[mU _ (by rw[hid];intro i hi;simp at hi;rcases hi with rfl|rfl|rfl<;>rfl)]
 ·rfl
theorem sF{l:List Bool}{b:Bool}:aJ l++[.bool b]=aJ (l++[b]):=by simp[aJ]
theorem OI{c:List UInt8}(hc:c.length<=2000){al st:Int}{w s:Nat}(hw:w<=6)(hst:st=s)(hs:s<=100):∀(j i:Nat) (p:Int) (d:List (List Int)) (bl:List Bool) (hi:i+j=s) (hd:d.length=i) (hbl:bl.length=i) (hrw:∀r∈d,r.length=w) (hp:0<=p) (hp2:p+7*j<=1000000000),
  ∃(d2:List (List Int)) (bl2:List Bool) (q:Int),d2.length=s/\bl2.length=s/\(∀r∈d2,r.length=w)/\p<=q/\q<=p+7*j/\∀(R:Type) (L n m:Nat) (k:KE R),2<=n->2^60<=L->j<m->
  aM env (aA env L n) L 1 (W32 (W4 (W1 [1002]))) Bz5 (d8 0) Bz31 m (.ptr 0 0 0::Y1 (nI st::Y2 (Y1 (.ptr 1 0 0::.ptr 2 0 0::nI w::nI i::Y32 (Y4 (Y2 (Y1 ([])))))))) (rdO c p::.box [nI 0,.sl 3 0 0 0,.sl 4 0 0 0]::.box [nI al,.sl 5 0 0 (List.length d),.sl 6 0 0 (List.length bl)]::.arr [] 0 0::.arr [] 0 0::.vec (aC 7 d++aF 0) 1 0::.arr (aJ bl) 1 0::aH d) k
  =k (.exit 0) (.ptr 0 0 0::Y1 (nI st::Y2 (Y1 (.ptr 1 0 0::.ptr 2 0 0::nI w::nI s::Y32 (Y4 (Y2 (Y1 ([])))))))) (rdO c q::.box [nI 0,.sl 3 0 0 0,.sl 4 0 0 0]::.box [nI al,.sl 5 0 0 (List.length d2),.sl 6 0 0 (List.length bl2)]::.arr [] 0 0::.arr [] 0 0::.vec (aC 7 d2++aF 0) 1 0::.arr (aJ bl2) 1 0::aH d2):=by
 intro j
 induction j with
 |zero=>
  intro i p d bl hi hd hbl hrw hp hp2;obtain rfl:i=s:=by omega
  refine⟨d,bl,p,hd,hbl,hrw,by omega,by omega,fun R L n m k hn hL hm=> ?_⟩;obtain _|m:=m;omega;have hdl:d.length<=4294967296:=by omega
  subst hst;simp -implicitDefEqProofs (maxSteps:=2000000) (disch:=try exact Dz) only[↓DN,↓kRet,UP,simprocAttr,Aj,↓aNa,r8,qV,Tryz.f61]
 |succ j ih=>
  intro i p d bl hi hd hbl hrw hp hp2;have hdl:d.length<=4294967296:=by omega
  obtain⟨r,q,g1,g2,kd1⟩:=QA hc (al:=al) (st:=st) (i9:=i) hw hdl (cs:=aJ bl) (z:=bl.length) w 0 p [] (by omega) rfl hp (by omega);obtain⟨v,v0,v1,v2,kd2⟩:=eJ hc q 3 (by omega) (by omega)
  obtain⟨d2,bl2,q2,e1,e2,e3,e4,e5,kd3⟩:=ih (i+1) (q+1) (d++[r]) (bl++[decide (0<v)]) (by omega) (by simp;omega) (by simp;omega) (by
   intro x hx
   rcases Al.1 hx with hx|hx
   ·exact hrw x hx
   ·simp at hx;subst hx;exact g1) (by omega) (by omega)
  refine⟨d2,bl2,q2,e1,e2,e3,by omega,by omega,fun R L n m k hn hL hm=> ?_⟩;obtain _|m:=m;omega;have kd3':=kd3 R L n m k hn hL (by omega);have loop_c:=fun {R:Type} {n:Nat} {k:KE R} (hn:2<=n)=>kd1 R L n L k hn hL (by omega);rw[cs1 i]at kd3';simp only[Ar,nF,Af,Ad,Ac,Ag]at loop_c kd3';have hc1:(i:Int)<st:=by omega
  have g1':w=r.length:=g1.symm;have ht:(aC 8 d++aF 0).take d.length=aC 8 d:=BE rfl;have hlv:d.length<=(aC 8 d++aF 0).length:=by rw[Af,fQ];omega
  obtain⟨G2,hG2⟩:∃G:H,G=(rdO c (q+1)::.box [nI 0,.sl 4 0 0 0,.sl 5 0 0 0]::.box [nI al,.sl 6 1 0 (d.length+1),.sl 7 0 0 bl.length]::.arr (ints r) 1 0::.arr [] 0 0::.arr [] 0 0::.vec (aC 8 d++[.sl 3 0 0 w]) 1 1::.arr (aJ (bl++[decide (0<v)])) 1 1::(aH d++.vec [.sl 3 0 0 w] 1 0::.arr [.bool (decide (0<v))] 1 0::[])):=⟨_,rfl⟩
  have k2:G2[2]? =some (.box [nI al,.sl 6 1 0 (d.length+1),.sl 7 0 0 bl.length]):=by rw[hG2];rfl
  have k3:G2[3]? =some (.arr (ints r) 1 0):=by rw[hG2];rfl
  have k6:G2[6]? =some (.vec (aC 8 d++[.sl 3 0 0 w]) 1 1):=by rw[hG2];rfl
  have k7:G2[7]? =some (.arr (aJ (bl++[decide (0<v)])) 1 1):=by rw[hG2];rfl
  have ok3:Okay G2 3:=.mk _ _ k3 (by simp) (by rw[bN k3];simp);have ok7:Okay G2 7:=.mk _ _ k7 (by simp) (by rw[bN k7];simp)
  have ok6:Okay G2 6:=.mk _ _ k6 (by simp) (by
   intro y hy;have:kids G2 6=List.range' 8 d.length++[3]:=by simp[kids,k6,bL,bU,idsL,idsA]
   rw[this,Al,Cp]at hy
   rcases hy with hy|hy
   ·obtain⟨z,rfl⟩:∃z,y=8+z:=⟨y-8,by omega⟩
    have hz:z<d.length:=by omega
    have hr:G2[8+z]? =some (.arr (ints d[z]) 1 0):=by
     rw[hG2,show 8+z=z+1+1+1+1+1+1+1+1 by omega];simp only[Au];exact B3 (Ae hz)
    exact .mk _ _ hr (by simp) (by rw[bN hr];simp)
   ·simp at hy;subst hy;exact ok3)
  have ok2:Okay G2 2:=.mk _ _ k2 (by simp) (by
   intro y hy;have:kids G2 2=[6,7]:=by simp[kids,k2,idsL,idsA]
   rw[this]at hy;simp at hy
   rcases hy with rfl|rfl
   ·exact ok6
   ·exact ok7)
  have wG2:2+wgt G2<=1099511627776:=by
   have h1:=oH (aH d) [.vec [.sl 3 0 0 w] 1 0,.arr [.bool (decide (0<v))] 1 0];rw[DM]at h1;rw[hG2];simp only[wgt,idsL,idsA,bL,bU,Af,Dp,Ad,Ac]at h1|-;omega
  have st_sto:∀ {call:aX} {thaw:List Nat} {dst:Option Tmp} {x y:Operand},memD env call thaw dst (.store 24 x y) G2 [.ptr 2 0 2,.sl 7 1 0 (bl.length+1)]=some (.d .undef,G2.set 2 (.box (bG [nI al,.sl 6 1 0 (d.length+1),.sl 7 0 0 bl.length] 2 [.sl 7 1 0 (bl.length+1)])),{ ids:=aD aG G2 [2,7] [],ro:=false,wr:=aD aG G2 [2,7] []}):=by
   intro call thaw dst x y;exact sR kr kr k2 (by simp) ok2 ok7 wG2
  obtain⟨o2,ho2⟩:∃o,o=aD aG G2 [2,7] []:=⟨_,rfl⟩
  rw[<-ho2]at st_sto;rw[hG2]at st_sto;simp only[Bl,Cd,bG,List.take_succ_cons,List.take_zero,Av,Ao,Ad,Ac,Dg,List.drop_nil,Nat.reduceAdd]at st_sto;clear hG2 k2 k3 k6 k7 ok2 ok3 ok6 ok7 wG2 ho2 ih kd1 kd3;subst hd;generalize hbv:decide (0<v)=b at *;simp -implicitDefEqProofs (maxSteps:=2000000) (disch:=try exact Dz) only[↓DN,↓kAsg,↓kRet,UP,simprocAttr,LA,hc1,hbv,↓loop_c,↓kd2,cA,fQ,aJN,Ab,sI,D2,aCI,aEk,By,ht,sF,Am,↓aM9,aDV,OM,NC,M7,LU,↓st_sto,↓aMs,↓kd3',r8,qV,Tryz.f61]
theorem KZ{c:List UInt8}(hc:c.length<=2000){al st:Int}{w s:Nat}(hw:w<=6)(hst:st=s)(hs:s<=100)(h1:1<=s)(p:Int)(hp:0<=p)(hp2:p+7*s<=1000000000):
  ∃(d2:List (List Int)) (bl2:List Bool) (q:Int),d2.length=s/\bl2.length=s/\(∀r∈d2,r.length=w)/\p<=q/\q<=p+7*s/\∀(R:Type) (L n m:Nat) (k:KE R),2<=n->2^60<=L->s<m->
  aM env (aA env L n) L 1 (W32 (W4 (W1 [1002]))) Bz5 (d8 0) Bz31 m (.ptr 0 0 0::Y1 (nI st::Y2 (Y1 (.ptr 1 0 0::.ptr 2 0 0::nI w::nI 0::Y32 (Y4 (Y2 (Y1 ([])))))))) (rdO c p::.box [nI 0,.sl 3 0 0 0,.sl 4 0 0 0]::.box [nI al,.sl 5 0 0 0,.sl 6 0 0 0]::.arr [] 0 0::.arr [] 0 0::.arr [] 0 0::.arr [] 0 0::[]) k
  =k (.exit 0) (.ptr 0 0 0::Y1 (nI st::Y2 (Y1 (.ptr 1 0 0::.ptr 2 0 0::nI w::nI s::Y32 (Y4 (Y2 (Y1 ([])))))))) (rdO c q::.box [nI 0,.sl 3 0 0 0,.sl 4 0 0 0]::.box [nI al,.sl 5 0 0 (List.length d2),.sl 6 0 0 (List.length bl2)]::.arr [] 0 0::.arr [] 0 0::.vec (aC 7 d2++aF 0) 1 0::.arr (aJ bl2) 1 0::aH d2):=by
 obtain⟨j,hj⟩:∃j,s=j+1:=⟨s-1,by omega⟩
 obtain⟨r,q,g1,g2,kd1⟩:=MV hc (al:=al) (st:=st) (i9:=0) hw (cs:=[]) (z:=0) w 0 p [] (by omega) rfl hp (by omega);obtain⟨v,v0,v1,v2,kd2⟩:=eJ hc q 3 (by omega) (by omega);obtain⟨d2,bl2,q2,e1,e2,e3,e4,e5,kd3⟩:=OI hc (al:=al) (st:=st) hw hst hs j 1 (q+1) [r] [decide (0<v)] (by omega) rfl rfl (by intro x hx;simp at hx;subst hx;exact g1) (by omega) (by omega);refine⟨d2,bl2,q2,e1,e2,e3,by omega,by omega,fun R L n m k hn hL hm=> ?_⟩;obtain _|m:=m;omega;have kd3':=kd3 R L n m k hn hL (by omega);have loop_c:=fun {R:Type} {n:Nat} {k:KE R} (hn:2<=n)=>kd1 R L n L k hn hL (by omega);simp only[Ar,nF]at loop_c;have e7:aC 7 [r]++aF 0=[.sl 7 0 0 r.length]:=rfl;have e8:aH [r]=[.arr (ints r) 1 0]:=rfl;have e9:aJ [decide (0<v)]=[.bool (decide (0<v))]:=rfl;rw[e7,e8,e9,g1]at kd3';simp only[Ad,Ac,Ag,show((1:Nat):Int)=1 from rfl]at kd3';have hc1:(0:Int)<st:=by omega
 generalize hbv:decide (0<v)=b at *;clear kd1 kd3;simp -implicitDefEqProofs (maxSteps:=2000000) (disch:=try exact Dz) only[↓DN,↓kAsg,↓kRet,UP,simprocAttr,hc1,hbv,↓loop_c,↓kd2,↓kd3',r8,qV,Tryz.f61]
theorem z8{c:List UInt8}(hc:c.length<=2000)(al st:Int){s:Nat}(hst:st=s)(hs:s<=100)(h1:1<=s)(p:Int)(hp:0<=p)(hp2:p+7*s<=1000000000):
  ∃(nx:List (List Int)) (ac:List Bool) (q:Int),nx.length=s/\ac.length=s/\(∀r∈nx,r.length=(aB al).length)/\p<=q/\q<=p+7*s/\∀(L n:Nat),3<=n->2^60<=L->
  aA env L n 61 [.ptr 0 0 0,nI al,nI st] [rdO c p]=some (autA 1 al nx.length ac.length,rdO c q::autO 1 nx ac):=by
 obtain⟨nx,ac,q,g1,g2,g3,g4,g5,kd⟩:=KZ hc (al:=al) (st:=st) (w:=(aB al).length) (bX al) hst hs h1 p hp hp2;refine⟨nx,ac,q,g1,g2,g3,g4,g5,fun L n hn hL=> ?_⟩;have loop_c:=fun {R:Type} {n:Nat} {k:KE R} (hn:2<=n)=>kd R L n L k hn hL (by omega);have hnl:nx.length<=4294967296:=by omega
 have hbl:(aJ ac).length=ac.length:=eA;unfold autA autO;clear kd;obtain _|n:=n;omega;simp -implicitDefEqProofs (maxSteps:=2000000) (disch:=try exact Dz) only[↓DN,↓kAsg,↓kRet,UP,simprocAttr,↓fR,↓loop_c,↓aJ6,↓aKa,z0As,z0A,eq_self,aBx,aBJ,aDl,NN,Tryz.f61]
end Ev
end Go.Proofs.YthlkcebdfbjdoaaGreat
