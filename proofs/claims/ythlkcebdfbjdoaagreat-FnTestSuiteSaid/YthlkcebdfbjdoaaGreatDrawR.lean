/-
  Words: what the functions on words give.
-/
import Derived.Test.YthlkcebdfbjdoaaGreatSortLayX
import Derived.Test.YthlkcebdfbjdoaaGreatMemD
import Derived.Test.YthlkcebdfbjdoaaGreatCopy
set_option linter.unusedSimpArgs false
set_option linter.unusedVariables false
set_option maxRecDepth 8000
set_option maxHeartbeats 4000000
namespace Go.Proofs.YthlkcebdfbjdoaaGreat
namespace Ev
section
variable{R:Type}{L n:Nat}
def ltr(b:UInt8):Int:=(b.toNat:Int)-97
def b7(l:Int):UInt8:=UInt8.ofNat (97+l).toNat
theorem aKR{b:UInt8}:IntKind.i64.wrap ((b.toNat:Int)-97)=ltr b:=zF (by omega) (by have:=toNat_lt b;omega)
theorem TF{l:Int}(h0:0<=l)(h:l<=5):IntKind.u8.wrap (97+l)=((b7 l).toNat:Int):=by
 rw[aU7 (by omega) (by omega)];unfold b7;rw[UInt8.toNat_ofNat'];omega
theorem aEK(hn:1<=n)(s:List UInt8)(i:Int)(h0:0<=i)(h:i<s.length):aA env L n 148 [.d (.str s),nI i] []=some (nI (ltr (s.getD i.toNat 0)),[]):=by
 obtain _|n:=n;omega;simp -implicitDefEqProofs (maxSteps:=2000000) (disch:=try exact Dz) only[↓DN,↓kAsg,↓kRet,UP,simprocAttr,↓NU,aKR,aOD,aIH,Tryz.f148]
theorem SR:type_of% fun {L} s i h0 h=>ks fun hn=> @aEK L _ hn s i h0 h:=fun {L} s i h0 h=>ks fun hn=> @aEK L _ hn s i h0 h
theorem Q4(hn:1<=n)(s:List UInt8)(i:Int)(h0:0<=i)(h:i<s.length):aA env L n 42 [.d (.str s),nI i] []=some (nI (if qM (ltr (s.getD i.toNat 0))then ltr (s.getD i.toNat 0)else -1),[]):=by
 obtain _|n:=n;omega;simp -implicitDefEqProofs (maxSteps:=2000000) (disch:=try exact Dz) only[↓DN,↓kAsg,↓kRet,UP,simprocAttr,↓NU,aKR,aGu,S7,Tryz.f42];generalize ltr (s.getD i.toNat 0)=v;unfold qM
 by_cases h1:v<0
 ·have h2:¬0<=v:=by omega
  simp[h1,h2]
 ·have h2:0<=v:=by omega
  by_cases h3:6<=v
  ·have h4:¬v<6:=by omega
   simp[h1,h2,h3,h4]
  ·have h4:v<6:=by omega
   simp[h1,h2,h3,h4]
theorem Q8:type_of% fun {L} s i h0 h=>ks fun hn=> @Q4 L _ hn s i h0 h:=fun {L} s i h0 h=>ks fun hn=> @Q4 L _ hn s i h0 h
theorem JV(hn:1<=n)(l:Int)(h0:0<=l)(h:l<=5):aA env L n 64 [nI l] []=some (.d (.int .u8 (b7 l).toNat),[]):=by
 have e:IntKind.u8.wrap (97+l)=((b7 l).toNat:Int):=TF h0 h;obtain _|n:=n;omega;simp -implicitDefEqProofs (maxSteps:=2000000) (disch:=try exact Dz) only[↓DN,↓kAsg,↓kRet,UP,simprocAttr,↓aDs,e,aA6,ME,Tryz.f64]
theorem J6:type_of% fun {L} l h0 h=>ks fun hn=> @JV L _ hn l h0 h:=fun {L} l h0 h=>ks fun hn=> @JV L _ hn l h0 h
def okB(b:UInt8):Bool:=qM (ltr b)
def cX(s:List UInt8):Bool:=decide (s.length<=50000)&&s.all okB
def upTo{α:Type}(p:α->Bool)(l:List α)(i:Nat):Int:=(i:Int)+((l.drop i).takeWhile p).length
theorem aIU{α:Type}{p:α->Bool}{l:List α}:upTo p l l.length=l.length:=by
 unfold upTo;simp
theorem aEA{α:Type}{p:α->Bool}{l:List α}{i:Nat}{d:α}(h:i<l.length)(hp:p (l.getD i d)=false):upTo p l i=i:=by
 unfold upTo;rw[Aa,Ae h]at hp;simp only[Bb]at hp;rw[Dq h,List.takeWhile_cons,hp];simp
theorem aKp{α:Type}{p:α->Bool}{l:List α}{i:Nat}{d:α}(h:i<l.length)(hp:p (l.getD i d)=true):upTo p l i=upTo p l (i+1):=by
 unfold upTo;rw[Aa,Ae h]at hp;simp only[Bb]at hp;rw[Dq h,List.takeWhile_cons,hp]
 simp;omega
theorem aIT{α:Type}{p:α->Bool}{l:List α}{i:Nat}{d:α}(h:i<l.length)(hp:p (l.getD i d)=false):(l.drop i).all p=false:=by
 rw[Aa,Ae h]at hp;simp only[Bb]at hp;rw[Dq h,Bs,hp];rfl
theorem aNc{α:Type}{p:α->Bool}{l:List α}{i:Nat}{d:α}(h:i<l.length)(hp:p (l.getD i d)=true):(l.drop i).all p=(l.drop (i+1)).all p:=by
 rw[Aa,Ae h]at hp;simp only[Bb]at hp;rw[Dq h,Bs,hp];rfl
theorem GH(hn:1<=n){s:List UInt8}(hs:s.length<4294967296){k:KE R}:∀(i:Int) (m:Nat) (h0:0<=i) (hi:i<=s.length) (hm:(s.length:Int)-i<m),
  aM env (aA env L n) L 0 [] Bz55 (nQ 0) (Z1 (U1 (Z2 (U16 (U2 (U1 ([]))))))) m (.d (.str s)::Y1 (.d (.bool false)::nI i::Y16 (Y2 (Y1 ([]))))) [] k
  =if(s.drop i.toNat).all okB then k (.exit 0) (.d (.str s)::Y1 (.d (.bool false)::nI (upTo okB s i.toNat)::Y16 (Y2 (Y1 ([]))))) []else k .ret (.d (.str s)::Y1 (.d (.bool false)::nI (upTo okB s i.toNat)::Y16 (Y2 (Y1 ([]))))) []:=by
 intro i m h0 hi hm;obtain⟨j,hj⟩:∃j:Nat,(j:Int)=(s.length:Int)-i:=⟨((s.length:Int)-i).toNat,by omega⟩
 induction j generalizing i m with
 |zero=>
  obtain _|m:=m;omega;obtain rfl:i=s.length:=by omega
  simp -implicitDefEqProofs (maxSteps:=2000000) (disch:=try exact Dz) only[↓DN,↓kRet,UP,simprocAttr,Aj,mB,mL,Tryz.f136];simp only[Ca,Cb,if_true,aIU]
 |succ j ih=>
  obtain _|m:=m;omega;have hc:i<s.length:=by omega
  have hk:i.toNat<s.length:=by omega
  have e1:(i+1).toNat=i.toNat+1:=by omega
  cases hb:okB (s.getD i.toNat 0)with
  |true=>
   have hb':=hb;unfold okB qM at hb';simp only[decide_eq_true_eq]at hb';have n1:¬ltr (s.getD i.toNat 0)<0:=by omega
   have n2:¬6<=ltr (s.getD i.toNat 0):=by omega
   simp -implicitDefEqProofs (maxSteps:=2000000) (disch:=try exact Dz) only[↓DN,↓kRet,UP,simprocAttr,hc,↓SR,n1,n2,↓ih,mB,mL,Tryz.f136];rw[e1,aNc hk hb,aKp hk hb]
  |false=>
   have hb':=hb;unfold okB qM at hb';simp only[decide_eq_false_iff_not]at hb';rw[aIT hk hb,aEA hk hb]
   by_cases n1:ltr (s.getD i.toNat 0)<0
   ·simp -implicitDefEqProofs (maxSteps:=2000000) (disch:=try exact Dz) only[↓DN,↓kAsg,↓kRet,UP,simprocAttr,hc,↓SR,n1,mB,mL,Tryz.f136];rw[Cv h0]
   ·have n2:6<=ltr (s.getD i.toNat 0):=by omega
    simp -implicitDefEqProofs (maxSteps:=2000000) (disch:=try exact Dz) only[↓DN,↓kAsg,↓kRet,UP,simprocAttr,hc,↓SR,n1,n2,mB,mL,Tryz.f136];rw[Cv h0]
theorem MP(hn:2<=n)(s:List UInt8)(hL:2^60<=L):aA env L n 136 [.d (.str s)] []=some (.d (.bool (cX s)),[]):=by
 unfold cX
 by_cases hs:s.length<=50000
 ·have hs':¬(50000:Int)<s.length:=by omega
  cases ha:s.all okB with
  |true=>
   obtain _|n:=n;omega;simp -implicitDefEqProofs (maxSteps:=2000000) (disch:=try exact Dz) only[↓DN,↓kAsg,↓kRet,UP,simprocAttr,hs',↓GH,ha,A2,vB,Tryz.f136];simp[hs]
  |false=>
   obtain _|n:=n;omega;simp -implicitDefEqProofs (maxSteps:=2000000) (disch:=try exact Dz) only[↓DN,↓kAsg,↓kRet,UP,simprocAttr,hs',↓GH,ha,A2,vB,Tryz.f136]
   all_goals simp
 ·have hs':(50000:Int)<s.length:=by omega
  obtain _|n:=n;omega;simp -implicitDefEqProofs (maxSteps:=2000000) (disch:=try exact Dz) only[↓DN,↓kAsg,↓kRet,UP,simprocAttr,hs',A2,vB,Tryz.f136];simp[hs]
theorem BE:type_of% fun {L} s hL=>ks fun hn=> @MP L _ hn s hL:=fun {L} s hL=>ks fun hn=> @MP L _ hn s hL
def inB(a:Int)(b:UInt8):Bool:=okB b&&eL a (ltr b)
def mA(a:Int)(s:List UInt8):Bool:=kD a&&decide (s.length<=50000)&&s.all (inB a)
theorem aOc{a:Int}{b:UInt8}:(decide (0<=(if qM (ltr b)then ltr b else -1))&&eL a (if qM (ltr b)then ltr b else -1))=inB a b:=by
 unfold inB okB
 cases h:qM (ltr b)with
 |true=>
  have:=aFF.1 h;have h2:0<=ltr b:=by omega
  simp[h2]
 |false=>simp
theorem EJ(hn:1<=n){s:List UInt8}{a:Int}(hs:s.length<4294967296){k:KE R}:∀(i:Int) (m:Nat) (h0:0<=i) (hi:i<=s.length) (hm:(s.length:Int)-i<m),
  aM env (aA env L n) L 0 [] Bz41 (mN 0) (Z2 (U2 (Z1 (U8 (U2 (Z2 (U8 (U1 ([]))))))))) m (.d (.str s)::nI a::Y2 (.d (.bool false)::Y8 (Y2 (nI (s.length)::nI i::Y8 (Y1 ([])))))) [] k
  =if(s.drop i.toNat).all (inB a)then k (.exit 0) (.d (.str s)::nI a::Y2 (.d (.bool false)::Y8 (Y2 (nI (s.length)::nI (upTo (inB a) s i.toNat)::Y8 (Y1 ([])))))) []else k .ret (.d (.str s)::nI a::Y2 (.d (.bool false)::Y8 (Y2 (nI (s.length)::nI (upTo (inB a) s i.toNat)::Y8 (Y1 ([])))))) []:=by
 intro i m h0 hi hm;obtain⟨j,hj⟩:∃j:Nat,(j:Int)=(s.length:Int)-i:=⟨((s.length:Int)-i).toNat,by omega⟩
 induction j generalizing i m with
 |zero=>
  obtain _|m:=m;omega;obtain rfl:i=s.length:=by omega
  simp -implicitDefEqProofs (maxSteps:=2000000) (disch:=try exact Dz) only[↓DN,↓kRet,UP,simprocAttr,Aj,p9,oU,Tryz.f12];simp only[Ca,Cb,if_true,aIU]
 |succ j ih=>
  obtain _|m:=m;omega;have hc:i<s.length:=by omega
  have hk:i.toNat<s.length:=by omega
  have e1:(i+1).toNat=i.toNat+1:=by omega
  cases hb:inB a (s.getD i.toNat 0)with
  |true=>
   simp -implicitDefEqProofs (maxSteps:=2000000) (disch:=try exact Dz) only[↓DN,↓kRet,UP,simprocAttr,hc,↓Q8,↓O6,aOc,hb,↓ih,p9,oU,Tryz.f12];rw[e1,aNc hk hb,aKp hk hb]
  |false=>
   rw[aIT hk hb,aEA hk hb];simp -implicitDefEqProofs (maxSteps:=2000000) (disch:=try exact Dz) only[↓DN,↓kAsg,↓kRet,UP,simprocAttr,hc,↓Q8,↓O6,aOc,hb,p9,oU,Tryz.f12];rw[Cv h0]
theorem I7(hn:2<=n)(s:List UInt8)(a:Int)(hL:2^60<=L):aA env L n 12 [.d (.str s),nI a] []=some (.d (.bool (mA a s)),[]):=by
 unfold mA
 cases hal:kD a with
 |false=>
  obtain _|n:=n;omega;simp -implicitDefEqProofs (maxSteps:=2000000) (disch:=try exact Dz) only[↓DN,↓kAsg,↓kRet,UP,simprocAttr,↓eI,hal,qD,nL,Tryz.f12]
  all_goals rfl
 |true=>
  by_cases hs:s.length<=50000
  ·have hs':¬(50000:Int)<s.length:=by omega
   cases ha:s.all (inB a)with
   |true=>
    obtain _|n:=n;omega;simp -implicitDefEqProofs (maxSteps:=2000000) (disch:=try exact Dz) only[↓DN,↓kAsg,↓kRet,UP,simprocAttr,↓eI,hal,hs',↓EJ,ha,qD,nL,Tryz.f12];simp[hs]
   |false=>
    obtain _|n:=n;omega;simp -implicitDefEqProofs (maxSteps:=2000000) (disch:=try exact Dz) only[↓DN,↓kAsg,↓kRet,UP,simprocAttr,↓eI,hal,hs',↓EJ,ha,qD,nL,Tryz.f12]
    all_goals simp
  ·have hs':(50000:Int)<s.length:=by omega
   obtain _|n:=n;omega;simp -implicitDefEqProofs (maxSteps:=2000000) (disch:=try exact Dz) only[↓DN,↓kAsg,↓kRet,UP,simprocAttr,↓eI,hal,hs',qD,nL,Tryz.f12];simp[hs]
theorem aC6:type_of% fun {L} s a hL=>ks fun hn=> @I7 L _ hn s a hL:=fun {L} s a hL=>ks fun hn=> @I7 L _ hn s a hL
theorem NB(hn:3<=n)(s:List UInt8)(hL:2^60<=L):aA env L n 43 [.d (.str s)] []=some (.d (.bool (cX s)),[]):=by
 have e:mA 63 s=cX s:=by
  unfold mA cX
  have:inB 63=okB:=by
   funext b
   unfold inB okB
   cases h:qM (ltr b)with
   |false=>rfl
   |true=>
    have hb:=aFF.1 h;have:ltr b=0\/ltr b=1\/ltr b=2\/ltr b=3\/ltr b=4\/ltr b=5:=by omega
    rcases this with h|h|h|h|h|h<;>rw[h]<;>decide
  rw[this];rfl
 obtain _|n:=n;omega;simp -implicitDefEqProofs (maxSteps:=2000000) (disch:=try exact Dz) only[↓DN,↓kAsg,UP,simprocAttr,↓aC6,e,aDE,Q3,Tryz.f43]
theorem AG:type_of% fun {L} s hL=>ks fun hn=> @NB L _ hn s hL:=fun {L} s hL=>ks fun hn=> @NB L _ hn s hL
end
theorem cD{R:Type}{call:aZ}{h:H}{f:FuncId}{args:List A}{c:List UInt8}{p q:Int}{r:A}{k:KA R}(hm:(env.hint f).mode=0)(ha:idsL args=[])(hr:idsA r=[])(he:call f (.ptr 0 0 0::args) [rdO c p]=some (r,[rdO c q])):
  a6 env call (rdO c p::h) f (.ptr 0 0 0::args) k=k r (rdO c q::h):=by
 have hid:idsL (A.ptr 0 0 0::args)=[0]:=by simp[idsL,idsA,ha]
 have hre:aD aG (rdO c p::h) [0] []=[0]:=rfl;have hpk:pack (rdO c p::h) [0]=[rdO c p]:=rfl
 have hma:aE (aH [0]) (A.ptr 0 0 0::args)=A.ptr 0 0 0::args:=by
  simp only[aE,iT _ ha];rfl
 unfold a6;rw[hid,hre,hpk,hma]
 have hc:b8 call env.hint [rdO c p] f (.ptr 0 0 0::args)=some (r,[rdO c q]):=by
  unfold b8;rw[hm];exact he
 rw[hc];have hcl:closed (rdO c p::h) [0] [0]=true:=rfl;simp only[Ad,Ac,Ab,hcl,and_self,if_true,rZ r hr]
 congr 1
 simp[bG,mapO,aE,mapA]
theorem aA1:(env.hint 49).mode=0:=kr
theorem aLS{a b:Int}(ha:0<=a)(ha2:a<2^62)(hb:0<=b)(hb2:b<2^62):0<=iXor .i64 a b/\iXor .i64 a b<2^62:=by
 obtain⟨m,rfl⟩:=Dk ha;obtain⟨n,rfl⟩:=Dk hb;have hm:m<2^62:=by omega
 have hn:n<2^62:=by omega
 have hx:(BitVec.ofInt 64 (m:Int)^^^BitVec.ofInt 64 (n:Int)).toNat=m^^^n:=by
  rw[BitVec.toNat_xor]
  congr 1<;>(simp only[BitVec.ofInt_natCast,BitVec.toNat_ofNat];omega)
 have hlt:m^^^n<2^62:=Nat.xor_lt_two_pow hm hn;unfold iXor;have:(BitVec.ofInt IntKind.i64.bits (m:Int)^^^BitVec.ofInt IntKind.i64.bits (n:Int)).toNat=m^^^n:=hx;rw[this,zF (by omega) (by omega)];omega
theorem fA{c:List UInt8}(hc:c.length<=2000)(p b:Int)(hp:0<=p)(hp2:p<=1000000000):∃v:Int,0<=v/\(1<=b->v<b)/\(b<1->v=0)/\(Dw 1 49 [nI b] (nI v) c p (p+1)):=by
 by_cases h1:b<1
 ·refine⟨0,by omega,by omega,by omega,fun R L n hq k hn hL=>cD aA1 rfl rfl ?_⟩;obtain _|n:=n;omega;simp -implicitDefEqProofs (maxSteps:=2000000) (disch:=try exact Dz) only[↓DN,↓kAsg,↓kRet,UP,simprocAttr,h1,qN,nC,Tryz.f49]
 ·by_cases h2:c.length=0
  ·refine⟨0,by omega,by omega,by omega,fun R L n hq k hn hL=>cD aA1 rfl rfl ?_⟩;have h2':(c.length:Int)=0:=by omega
   obtain _|n:=n;omega;simp -implicitDefEqProofs (maxSteps:=2000000) (disch:=try exact Dz) only[↓DN,↓kAsg,↓kRet,UP,simprocAttr,h1,h2',qN,nC,Tryz.f49]
  ·have h2':¬(c.length:Int)=0:=by omega
   by_cases h3:p<c.length
   ·have hb:b≠0:=by omega
    have t0:0<=((c.getD p.toNat 0).toNat:Int).tmod b:=Int.tmod_nonneg b (by omega);have t1:((c.getD p.toNat 0).toNat:Int).tmod b<b:=Int.tmod_lt_of_pos _ (by omega);refine⟨((c.getD p.toNat 0).toNat:Int).tmod b,t0,fun _=>t1,by omega,fun R L n hq k hn hL=>cD aA1 rfl rfl ?_⟩;have e1:p+1-1=p:=by omega
    obtain _|n:=n;omega;simp -implicitDefEqProofs (maxSteps:=2000000) (disch:=try exact Dz) only[↓DN,↓kAsg,↓kRet,UP,simprocAttr,h1,h2',e1,h3,qN,nC,Tryz.f49]
   ·have e1:p+1-1=p:=by omega
    have hl1:(0:Int)<c.length:=by omega
    have q1:0<=p.tmod c.length:=Int.tmod_nonneg _ hp;have q2:p.tmod c.length<c.length:=Int.tmod_lt_of_pos _ hl1;have q3:0<=(p*7+3).tmod c.length:=Int.tmod_nonneg _ (by omega);have q4:(p*7+3).tmod c.length<c.length:=Int.tmod_lt_of_pos _ hl1;have q5:0<=p.tdiv c.length:=Int.tdiv_nonneg hp (by omega);have q6:p.tdiv c.length<=p:=Int.tdiv_le_self _ hp;have b1:=toNat_lt (c.getD (p.tmod c.length).toNat 0);have b2:=toNat_lt (c.getD ((p*7+3).tmod c.length).toNat 0);have r1:(p.tmod c.length).toNat<c.length:=by omega
    have r2:((p*7+3).tmod c.length).toNat<c.length:=by omega
    obtain⟨x,hx⟩:∃x:Int,x=((c.getD (p.tmod c.length).toNat 0).toNat:Int)*131+((c.getD ((p*7+3).tmod c.length).toNat 0).toNat:Int)*1117+p*29+p.tdiv c.length*53:=⟨_,rfl⟩
    have x0:0<=x:=by omega
    have x1:x<2^62:=by omega
    have y0:0<=x.tdiv 64:=Int.tdiv_nonneg x0 (by omega);have y1:x.tdiv 64<2^62:=by have:=Int.tdiv_le_self 64 x0;omega
    have z:=aLS x0 x1 y0 y1;have hb:b≠0:=by omega
    have t0:0<=(iXor .i64 x (x.tdiv 64)).tmod b:=Int.tmod_nonneg b z.1;have t1:(iXor .i64 x (x.tdiv 64)).tmod b<b:=Int.tmod_lt_of_pos _ (by omega);refine⟨(iXor .i64 x (x.tdiv 64)).tmod b,t0,fun _=>t1,by omega,fun R L n hq k hn hL=>cD aA1 rfl rfl ?_⟩;clear b1 b2 z t0 t1;have b1:=toNat_lt (c.getD (p.tmod c.length).toNat 0);have b2:=toNat_lt (c.getD ((p*7+3).tmod c.length).toNat 0);subst hx;obtain _|n:=n;omega;simp -implicitDefEqProofs (maxSteps:=2000000) (disch:=try exact Dz) only[↓DN,↓kAsg,↓kRet,UP,simprocAttr,h1,h2',e1,h3,qN,nC,Tryz.f49]
theorem aVa:(env.hint 62).mode=0:=kr
theorem m_of:(env.hint 87).mode=0:=kr
theorem aMM{R:Type}{call:aZ}{hq:H}{f:FuncId}{c:List UInt8}{p q:Int}{r:A}{k:KA R}{cs:List D}{e g n id:Nat}(hi:hq[id]? =some (.arr cs e g))(hm:(env.hint f).mode=0)(hr:idsA r=[])(he:call f [.ptr 0 0 0,.sl 1 g 0 n] [rdO c p,.arr cs e g]=some (r,[rdO c q,.arr cs e g])):
  a6 env call (rdO c p::hq) f [.ptr 0 0 0,.sl (id+1) g 0 n] k=k r (rdO c q::hq):=by
 have hlk:(rdO c p::hq)[id+1]? =some (.arr cs e g):=by rw[At];exact hi
 have hre:aD aG (rdO c p::hq) [0,id+1] []=[0,id+1]:=by
  have e1:aD aG (rdO c p::hq) [0,id+1] []=aD (aG-1) (rdO c p::hq) [id+1] [0]:=rfl
  have e2:aD (aG-1) (rdO c p::hq) [id+1] [0]=if [0].contains (id+1)=true then aD (aG-2) (rdO c p::hq) [] [0]else match(rdO c p::hq)[id+1]? with
   |some (.box cs)=>aD (aG-2) (rdO c p::hq) ([]++idsL cs) ([0]++[id+1])
   |some (.vec cs _ _)=>aD (aG-2) (rdO c p::hq) ([]++idsL cs) ([0]++[id+1])
   |some .void=>aD (aG-2) (rdO c p::hq) [] [0]
   |some _=>aD (aG-2) (rdO c p::hq) [] ([0]++[id+1])
   |none=>aD (aG-2) (rdO c p::hq) [] [0]:=rfl
  have e3:[0].contains (id+1)=false:=by simp
  rw[e1,e2,e3,hlk];rfl
 have hpk:pack (rdO c p::hq) [0,id+1]=[rdO c p,.arr cs e g]:=by
  simp only[pack,Ai,Ap,Aa,hlk];rfl
 unfold a6;have hid:idsL [A.ptr 0 0 0,A.sl (id+1) g 0 n]=[0,id+1]:=rfl;rw[hid,hre,hpk]
 have hma:aE (aH [0,id+1]) [A.ptr 0 0 0,A.sl (id+1) g 0 n]=[A.ptr 0 0 0,A.sl 1 g 0 n]:=by
  simp[aE,mapA,aH]
 rw[hma]
 have hc:b8 call env.hint [rdO c p,.arr cs e g] f [.ptr 0 0 0,.sl 1 g 0 n]=some (r,[rdO c q,.arr cs e g]):=by
  unfold b8;rw[hm];exact he
 rw[hc]
 have hcl:closed (rdO c p::hq) [0,id+1] [0,id+1]=true:=by
  simp only[closed,Bs,Cb,hlk,Ce];simp[idsL,idsA]
 simp only[Ad,Ac,Ab,hcl,and_self,if_true,rZ r hr]
 congr 1
 simp only[bG,mapO,aE,mapA,Ap,Ah,Cf,Bn]
 congr 1
 exact aUe hi
theorem aAj{α:Type}{l:List α}{k:Nat}{d:α}(h:k<l.length):l.getD k d∈l:=by
 rw[Aa,Ae h];exact Az h
theorem aUv{c:List UInt8}(hc:c.length<=2000)(l:List Int)(g:Nat)(hl:0<l.length)(hl2:l.length<1000)(p:Int)(hp:0<=p)(hp2:p<=1000000000):∃v:Int,v∈l/\∀(L n:Nat),2<=n->2^60<=L->aA env L n 62 [.ptr 0 0 0,.sl 1 g 0 l.length] [rdO c p,.arr (ints l) 1 g]=some (nI v,[rdO c (p+1),.arr (ints l) 1 g]):=by
 obtain⟨v,v0,v1,_,kd⟩:=fA hc p l.length hp hp2;have v1:=v1 (by omega);have hk:v.toNat<l.length:=by omega
 refine⟨l.getD v.toNat 0,aAj hk,fun L n hn hL=> ?_⟩;obtain _|n:=n;omega;simp -implicitDefEqProofs (maxSteps:=2000000) (disch:=try exact Dz) only[↓DN,↓kAsg,↓kRet,UP,simprocAttr,↓kd,aDV,QC,Tryz.f62]
theorem zE{c:List UInt8}(hc:c.length<=2000)(l:List Int)(hl:0<l.length)(hl2:l.length<1000)(p:Int)(hp:0<=p)(hp2:p<=1000000000):∃v:Int,v∈l/\(∀(R:Type) (L n id:Nat) (hq:H) (k:KA R),2<=n->2^60<=L->hq[id]? =some (.arr (ints l) 1 0)->a6 env (aA env L n) (rdO c p::hq) 62 [.ptr 0 0 0,.sl (id+1) 0 0 l.length] k=k (nI v) (rdO c (p+1)::hq)):=by
 obtain⟨v,hv,he⟩:=aUv hc l 0 hl hl2 p hp hp2;exact⟨v,hv,fun R L n id hq k hn hL hi=>aMM hi aVa rfl (he L n hn hL)⟩
def aL(l:List (List UInt8)):List D:=l.map .str
theorem eN{l:List (List UInt8)}:(aL l).length=l.length:=by simp[aL]
theorem PA{l:List (List UInt8)}{k:Nat}(h:k<l.length):(((aL l).drop k).map A.d).head? =some (.d (.str (l.getD k []))):=by
 rw[List.head?_map,Da,aL,Bd,Aa,Ae h];rfl
theorem aUP{c:List UInt8}(hc:c.length<=2000)(l:List (List UInt8))(hl:0<l.length)(hl2:l.length<1000)(p:Int)(hp:0<=p)(hp2:p<=1000000000):∃v:List UInt8,v∈l/\(Dw 2 87 [.d (.ivs l.length (aL l))] (.d (.str v)) c p (p+1)):=by
 obtain⟨v,v0,v1,_,kd⟩:=fA hc p l.length hp hp2;have v1:=v1 (by omega);have hk:v.toNat<l.length:=by omega
 refine⟨l.getD v.toNat [],aAj hk,fun R L n hq k hn hL=>cD m_of rfl rfl ?_⟩;obtain _|n:=n;omega;simp -implicitDefEqProofs (maxSteps:=2000000) (disch:=try exact Dz) only[↓DN,↓kAsg,↓kRet,UP,simprocAttr,↓kd,eN,PA,aGs,TZ,Tryz.f87]
theorem aAE{R:Type}{L n:Nat}(hn:1<=n){a:Int}{k:KE R}:∀(i:Int) (m:Nat) (l:List Int) (len:Nat) (h0:0<=i) (hi:i<=6) (hm:6-i<m) (hl:len=l.length) (hlen:(l.length:Int)<=i),
  aM env (aA env L n) L 0 [] Bz47 (oA 0) (Z1 (U1 (Z2 (Z1 (U8 (U4 (U1 ([])))))))) m (nI a::Y1 (.d .nils::.sl 0 0 0 len::nI i::Y8 (Y4 (Y1 ([]))))) [.arr (ints l) 1 0] k
  =k (.exit 0) (nI a::Y1 (.d .nils::.sl 0 0 0 (len+((qR (6-i).toNat).filter (eL a)).length)::nI 6::Y8 (Y4 (Y1 ([]))))) [.arr (ints (l++(qR (6-i).toNat).filter (eL a))) 1 0]:=by
 intro i m l len h0 hi hm hl hlen;obtain⟨j,hj⟩:∃j:Nat,(j:Int)=(6:Int)-i:=⟨((6:Int)-i).toNat,by omega⟩
 induction j generalizing i m l len with
 |zero=>
  obtain _|m:=m;omega;obtain rfl:i=6:=by omega
  simp -implicitDefEqProofs (maxSteps:=2000000) (disch:=try exact Dz) only[↓DN,↓kRet,UP,simprocAttr,rD,rA,Tryz.f72];simp only[qR,List.filter_nil,Ah,Ac,Bp]
 |succ j ih=>
  obtain _|m:=m;omega;have hc:i<6:=by omega
  have e1:(6-i).toNat=j+1:=by omega
  have e2:(6-(i+1)).toNat=j:=by omega
  have hr:qR (j+1)=i::qR j:=by simp only[qR];congr 1;omega
  rw[e1,hr,List.filter_cons]
  cases hb:eL a i with
  |true=>
   simp -implicitDefEqProofs (maxSteps:=2000000) (disch:=try exact Dz) only[↓DN,↓kRet,UP,simprocAttr,↓tG,↓ih,hc,hb,e2,rD,rA,Tryz.f72];simp only[Ao,Av,Am,Nat.add_assoc,Nat.add_comm 1]
  |false=>
   simp -implicitDefEqProofs (maxSteps:=2000000) (disch:=try exact Dz) only[↓DN,↓kRet,UP,simprocAttr,↓tG,↓ih,hc,hb,e2,rD,rA,Tryz.f72]
theorem aUZ:qR (6-(0:Int)).toNat=[0,1,2,3,4,5]:=rfl
theorem NK{L n:Nat}(hn:2<=n)(a:Int)(hL:2^60<=L):aA env L n 72 [nI a] []=some (.d (.ivs (aB a).length (ints (aB a))),[]):=by
 unfold aB;rw[<-aUZ];obtain _|n:=n;omega;simp -implicitDefEqProofs (maxSteps:=2000000) (disch:=try exact Dz) only[↓DN,↓kAsg,↓kRet,UP,simprocAttr,aRp,↓aAE,aDD,QH,Tryz.f72]
theorem gP:type_of% fun {L} a hL=>ks fun hn=> @NK L _ hn a hL:=fun {L} a hL=>ks fun hn=> @NK L _ hn a hL
theorem Y5{L n:Nat}(hn:1<=n)(l:Int)(h0:0<=l)(h:l<=5):aA env L n 77 [nI l] []=some (.d (.str [b7 l]),[]):=by
 have e:IntKind.u8.wrap (97+l)=((b7 l).toNat:Int):=TF h0 h;have e2:[D.int .u8 ((b7 l).toNat:Int)]=bI [b7 l]:=rfl;obtain _|n:=n;omega;simp -implicitDefEqProofs (maxSteps:=2000000) (disch:=try exact Dz) only[↓DN,↓kAsg,↓kRet,UP,simprocAttr,e,e2,↓AP,aJe,aBT,Tryz.f77]
theorem LY:type_of% fun {L} l h0 h=>ks fun hn=> @Y5 L _ hn l h0 h:=fun {L} l h0 h=>ks fun hn=> @Y5 L _ hn l h0 h
theorem S6{c:List UInt8}(hc:c.length<=2000){al st i9:Int}{w:Nat}(hw:w<=6){d:List (List Int)}(hdl:d.length<=4294967296){cs:List D}{z:Nat}:∀(j i:Nat) (p:Int) (o:List Int) (hi:i+j=w) (ho:o.length=i) (hp:0<=p) (hp2:p+j<=1000000000),
  ∃(r:List Int) (q:Int),r.length=w/\q=p+j/\∀(R:Type) (L n m:Nat) (k:KE R),2<=n->2^60<=L->j<m->
  aM env (aA env L n) L 1 (W32 (W4 (W1 [1002]))) Bz6 (eO 1) Bz31 m (.ptr 0 0 0::Y1 (nI st::Y2 (Y1 (.ptr 1 0 0::.ptr 2 0 0::nI w::nI i9::.sl 3 0 0 i::nI i::Y32 (Y4 (Y1 ([]))))))) (rdO c p::.box [nI 0,.sl 4 0 0 0,.sl 5 0 0 0]::.box [nI al,.sl 6 0 0 d.length,.sl 7 0 0 z]::.arr (ints o) 1 0::.arr [] 0 0::.arr [] 0 0::.vec (aC 8 d++aF 0) 1 0::.arr cs 1 0::aI d) k
  =k (.exit 2) (.ptr 0 0 0::Y1 (nI st::Y2 (Y1 (.ptr 1 0 0::.ptr 2 0 0::nI w::nI i9::.sl 3 0 0 w::nI w::Y32 (Y4 (Y1 ([]))))))) (rdO c q::.box [nI 0,.sl 4 0 0 0,.sl 5 0 0 0]::.box [nI al,.sl 6 0 0 d.length,.sl 7 0 0 z]::.arr (ints r) 1 0::.arr [] 0 0::.arr [] 0 0::.vec (aC 8 d++aF 0) 1 0::.arr cs 1 0::aI d):=by
 intro j
 induction j with
 |zero=>
  intro i p o hi ho hp hp2;obtain rfl:i=w:=by omega
  refine⟨o,p,ho,by omega,fun R L n m k hn hL hm=> ?_⟩;obtain _|m:=m;omega;subst ho;simp -implicitDefEqProofs (maxSteps:=2000000) (disch:=try exact Dz) only[↓DN,↓kRet,UP,simprocAttr,Aj,↓aRx,nA,nO,Tryz.f61]
 |succ j ih=>
  intro i p o hi ho hp hp2;obtain⟨v,v0,v1,v2,kd⟩:=fA hc p st hp (by omega);obtain⟨r,q,g1,g2,kd2⟩:=ih (i+1) (p+1) (o++[v]) (by omega) (by simp;omega) (by omega) (by omega);refine⟨r,q,g1,by omega,fun R L n m k hn hL hm=> ?_⟩;obtain _|m:=m;omega;have kd2':=kd2 R L n m k hn hL (by omega);rw[cs1 i]at kd2';have hc1:(i:Int)<w:=by omega
  subst ho;clear ih kd2;simp -implicitDefEqProofs (maxSteps:=2000000) (disch:=try exact Dz) only[↓DN,↓kRet,UP,simprocAttr,hc1,↓kd,↓kd2',cJ,uG,↓aT0,nA,nO,Tryz.f61]
theorem RQ{c:List UInt8}(hc:c.length<=2000){al st i9:Int}{w:Nat}(hw:w<=6){cs:List D}{z:Nat}:∀(j i:Nat) (p:Int) (o:List Int) (hi:i+j=w) (ho:o.length=i) (hp:0<=p) (hp2:p+j<=1000000000),
  ∃(r:List Int) (q:Int),r.length=w/\q=p+j/\∀(R:Type) (L n m:Nat) (k:KE R),2<=n->2^60<=L->j<m->
  aM env (aA env L n) L 1 (W32 (W4 (W1 [1002]))) Bz6 (eO 1) Bz31 m (.ptr 0 0 0::Y1 (nI st::Y2 (Y1 (.ptr 1 0 0::.ptr 2 0 0::nI w::nI i9::.sl 3 0 0 i::nI i::Y32 (Y4 (Y1 ([]))))))) (rdO c p::.box [nI 0,.sl 4 0 0 0,.sl 5 0 0 0]::.box [nI al,.sl 6 0 0 0,.sl 7 0 0 z]::.arr (ints o) 1 0::.arr [] 0 0::.arr [] 0 0::.arr [] 0 0::.arr cs 0 0::[]) k
  =k (.exit 2) (.ptr 0 0 0::Y1 (nI st::Y2 (Y1 (.ptr 1 0 0::.ptr 2 0 0::nI w::nI i9::.sl 3 0 0 w::nI w::Y32 (Y4 (Y1 ([]))))))) (rdO c q::.box [nI 0,.sl 4 0 0 0,.sl 5 0 0 0]::.box [nI al,.sl 6 0 0 0,.sl 7 0 0 z]::.arr (ints r) 1 0::.arr [] 0 0::.arr [] 0 0::.arr [] 0 0::.arr cs 0 0::[]):=by
 intro j
 induction j with
 |zero=>
  intro i p o hi ho hp hp2;obtain rfl:i=w:=by omega
  refine⟨o,p,ho,by omega,fun R L n m k hn hL hm=> ?_⟩;obtain _|m:=m;omega;subst ho;simp -implicitDefEqProofs (maxSteps:=2000000) (disch:=try exact Dz) only[↓DN,↓kRet,UP,simprocAttr,Aj,nA,nO,Tryz.f61]
 |succ j ih=>
  intro i p o hi ho hp hp2;obtain⟨v,v0,v1,v2,kd⟩:=fA hc p st hp (by omega);obtain⟨r,q,g1,g2,kd2⟩:=ih (i+1) (p+1) (o++[v]) (by omega) (by simp;omega) (by omega) (by omega);refine⟨r,q,g1,by omega,fun R L n m k hn hL hm=> ?_⟩;obtain _|m:=m;omega;have kd2':=kd2 R L n m k hn hL (by omega);rw[cs1 i]at kd2';have hc1:(i:Int)<w:=by omega
  subst ho;clear ih kd2;simp -implicitDefEqProofs (maxSteps:=2000000) (disch:=try exact Dz) only[↓DN,↓kRet,UP,simprocAttr,hc1,↓kd,↓kd2',nA,nO,Tryz.f61]
theorem aTX{m:List Bool}{s:List A}{y1 y2 x0 x1:D}{k z rl:Nat}{r:List Int}{cs:List D}{d:List (List Int)}{p:H}(hr:rl=r.length)(hl:d.length<=4294967296):gc 1 m s (.box [.d y1,.d y2]::.box [.d x0,.sl 4 0 0 0,.sl 5 0 0 0]::.box [.d x1,.sl 6 1 0 k,.sl 7 1 0 z]::.arr (ints r) 1 0::.arr [] 0 0::.arr [] 0 0::.vec (aC 8 d++[.sl 3 0 0 rl]) 1 1::.arr cs 1 1::(aI d++p))=match box (tidy m s)with
  |.mk s1=>if idsL s1=[0,1,2]then(s1,.box [.d y1,.d y2]::.box [.d x0,.sl 3 0 0 0,.sl 4 0 0 0]::.box [.d x1,.sl 5 0 0 k,.sl 6 0 0 z]::.arr [] 0 0::.arr [] 0 0::.vec (aC 7 (d++[r])++aF 0) 1 0::.arr cs 1 0::aI (d++[r]))else gcO 1 m s (.box [.d y1,.d y2]::.box [.d x0,.sl 4 0 0 0,.sl 5 0 0 0]::.box [.d x1,.sl 6 1 0 k,.sl 7 1 0 z]::.arr (ints r) 1 0::.arr [] 0 0::.arr [] 0 0::.vec (aC 8 d++[.sl 3 0 0 rl]) 1 1::.arr cs 1 1::(aI d++p))
  |.no=>([],[]):=by
 have hn:aF 0=[]:=rfl;subst hr;rw[aUf hl,<-LT,FP,hn,Ah,Nat.add_comm 7];simp only[box]
 split
 ·rename_i hid
  rw[oH _ (by rw[hid];intro i hi;simp at hi;rcases hi with rfl|rfl|rfl<;>rfl)]
 ·rfl
theorem uF{l:List Bool}{b:Bool}:aJ l++[.bool b]=aJ (l++[b]):=by simp[aJ]
theorem SP{c:List UInt8}(hc:c.length<=2000){al st:Int}{w s:Nat}(hw:w<=6)(hst:st=s)(hs:s<=100):∀(j i:Nat) (p:Int) (d:List (List Int)) (bl:List Bool) (hi:i+j=s) (hd:d.length=i) (hbl:bl.length=i) (hrw:∀r∈d,r.length=w) (hp:0<=p) (hp2:p+7*j<=1000000000),
  ∃(d2:List (List Int)) (bl2:List Bool) (q:Int),d2.length=s/\bl2.length=s/\(∀r∈d2,r.length=w)/\p<=q/\q<=p+7*j/\∀(R:Type) (L n m:Nat) (k:KE R),2<=n->2^60<=L->j<m->
  aM env (aA env L n) L 1 (W32 (W4 (W1 [1002]))) Bz6 (eO 0) Bz32 m (.ptr 0 0 0::Y1 (nI st::Y2 (Y1 (.ptr 1 0 0::.ptr 2 0 0::nI w::nI i::Y32 (Y4 (Y2 (Y1 ([])))))))) (rdO c p::.box [nI 0,.sl 3 0 0 0,.sl 4 0 0 0]::.box [nI al,.sl 5 0 0 (List.length d),.sl 6 0 0 (List.length bl)]::.arr [] 0 0::.arr [] 0 0::.vec (aC 7 d++aF 0) 1 0::.arr (aJ bl) 1 0::aI d) k
  =k (.exit 0) (.ptr 0 0 0::Y1 (nI st::Y2 (Y1 (.ptr 1 0 0::.ptr 2 0 0::nI w::nI s::Y32 (Y4 (Y2 (Y1 ([])))))))) (rdO c q::.box [nI 0,.sl 3 0 0 0,.sl 4 0 0 0]::.box [nI al,.sl 5 0 0 (List.length d2),.sl 6 0 0 (List.length bl2)]::.arr [] 0 0::.arr [] 0 0::.vec (aC 7 d2++aF 0) 1 0::.arr (aJ bl2) 1 0::aI d2):=by
 intro j
 induction j with
 |zero=>
  intro i p d bl hi hd hbl hrw hp hp2;obtain rfl:i=s:=by omega
  refine⟨d,bl,p,hd,hbl,hrw,by omega,by omega,fun R L n m k hn hL hm=> ?_⟩;obtain _|m:=m;omega;have hdl:d.length<=4294967296:=by omega
  subst hst;simp -implicitDefEqProofs (maxSteps:=2000000) (disch:=try exact Dz) only[↓DN,↓kRet,UP,simprocAttr,Aj,↓aTA,t8,sT,Tryz.f61]
 |succ j ih=>
  intro i p d bl hi hd hbl hrw hp hp2;have hdl:d.length<=4294967296:=by omega
  obtain⟨r,q,g1,g2,kd1⟩:=S6 hc (al:=al) (st:=st) (i9:=i) hw hdl (cs:=aJ bl) (z:=bl.length) w 0 p [] (by omega) rfl hp (by omega);obtain⟨v,v0,v1,v2,kd2⟩:=fA hc q 3 (by omega) (by omega)
  obtain⟨d2,bl2,q2,e1,e2,e3,e4,e5,kd3⟩:=ih (i+1) (q+1) (d++[r]) (bl++[decide (0<v)]) (by omega) (by simp;omega) (by simp;omega) (by
   intro x hx
   rcases Al.1 hx with hx|hx
   ·exact hrw x hx
   ·simp at hx;subst hx;exact g1) (by omega) (by omega)
  refine⟨d2,bl2,q2,e1,e2,e3,by omega,by omega,fun R L n m k hn hL hm=> ?_⟩;obtain _|m:=m;omega;have kd3':=kd3 R L n m k hn hL (by omega);have loop_c:=fun {R:Type} {n:Nat} {k:KE R} (hn:2<=n)=>kd1 R L n L k hn hL (by omega);rw[cs1 i]at kd3';simp only[Aq,oK,Af,Ad,Ac,Ag]at loop_c kd3';have hc1:(i:Int)<st:=by omega
  have g1':w=r.length:=g1.symm;have ht:(aC 8 d++aF 0).take d.length=aC 8 d:=FA rfl;have hlv:d.length<=(aC 8 d++aF 0).length:=by rw[Af,gR];omega
  obtain⟨G2,hG2⟩:∃G:H,G=(rdO c (q+1)::.box [nI 0,.sl 4 0 0 0,.sl 5 0 0 0]::.box [nI al,.sl 6 1 0 (d.length+1),.sl 7 0 0 bl.length]::.arr (ints r) 1 0::.arr [] 0 0::.arr [] 0 0::.vec (aC 8 d++[.sl 3 0 0 w]) 1 1::.arr (aJ (bl++[decide (0<v)])) 1 1::(aI d++.vec [.sl 3 0 0 w] 1 0::.arr [.bool (decide (0<v))] 1 0::[])):=⟨_,rfl⟩
  have k2:G2[2]? =some (.box [nI al,.sl 6 1 0 (d.length+1),.sl 7 0 0 bl.length]):=by rw[hG2];rfl
  have k3:G2[3]? =some (.arr (ints r) 1 0):=by rw[hG2];rfl
  have k6:G2[6]? =some (.vec (aC 8 d++[.sl 3 0 0 w]) 1 1):=by rw[hG2];rfl
  have k7:G2[7]? =some (.arr (aJ (bl++[decide (0<v)])) 1 1):=by rw[hG2];rfl
  have ok3:Okay G2 3:=.mk _ _ k3 (by simp) (by rw[bO k3];simp);have ok7:Okay G2 7:=.mk _ _ k7 (by simp) (by rw[bO k7];simp)
  have ok6:Okay G2 6:=.mk _ _ k6 (by simp) (by
   intro y hy;have:kids G2 6=List.range' 8 d.length++[3]:=by simp[kids,k6,bM,bY,idsL,idsA]
   rw[this,Al,Cu]at hy
   rcases hy with hy|hy
   ·obtain⟨z,rfl⟩:∃z,y=8+z:=⟨y-8,by omega⟩
    have hz:z<d.length:=by omega
    have hr:G2[8+z]? =some (.arr (ints d[z]) 1 0):=by
     rw[hG2,show 8+z=z+1+1+1+1+1+1+1+1 by omega];simp only[At];exact F1 (Ae hz)
    exact .mk _ _ hr (by simp) (by rw[bO hr];simp)
   ·simp at hy;subst hy;exact ok3)
  have ok2:Okay G2 2:=.mk _ _ k2 (by simp) (by
   intro y hy;have:kids G2 2=[6,7]:=by simp[kids,k2,idsL,idsA]
   rw[this]at hy;simp at hy
   rcases hy with rfl|rfl
   ·exact ok6
   ·exact ok7)
  have wG2:2+wgt G2<=1099511627776:=by
   have h1:=pU (aI d) [.vec [.sl 3 0 0 w] 1 0,.arr [.bool (decide (0<v))] 1 0];rw[GB]at h1;rw[hG2];simp only[wgt,idsL,idsA,bM,bY,Af,Ds,Ad,Ac]at h1|-;omega
  have st_sto:∀ {call:aZ} {thaw:List Nat} {dst:Option Tmp} {x y:Operand},memD env call thaw dst (.store 24 x y) G2 [.ptr 2 0 2,.sl 7 1 0 (bl.length+1)]=some (.d .undef,G2.set 2 (.box (bH [nI al,.sl 6 1 0 (d.length+1),.sl 7 0 0 bl.length] 2 [.sl 7 1 0 (bl.length+1)])),{ ids:=aD aG G2 [2,7] [],ro:=false,wr:=aD aG G2 [2,7] []}):=by
   intro call thaw dst x y;exact uB kr kr k2 (by simp) ok2 ok7 wG2
  obtain⟨o2,ho2⟩:∃o,o=aD aG G2 [2,7] []:=⟨_,rfl⟩
  rw[<-ho2]at st_sto;rw[hG2]at st_sto;simp only[Bn,Cf,bH,List.take_succ_cons,List.take_zero,Av,Am,Ad,Ac,Dh,List.drop_nil,Nat.reduceAdd]at st_sto;clear hG2 k2 k3 k6 k7 ok2 ok3 ok6 ok7 wG2 ho2 ih kd1 kd3;subst hd;generalize hbv:decide (0<v)=b at *;simp -implicitDefEqProofs (maxSteps:=2000000) (disch:=try exact Dz) only[↓DN,↓kAsg,↓kRet,UP,simprocAttr,LA,hc1,hbv,↓loop_c,↓kd2,cJ,gR,aMv,Ab,uG,GJ,aGD,aHH,Br,ht,uF,Ao,↓aUr,aGU,TI,UU,VQ,P9,↓st_sto,↓aTX,↓kd3',t8,sT,Tryz.f61]
theorem OM{c:List UInt8}(hc:c.length<=2000){al st:Int}{w s:Nat}(hw:w<=6)(hst:st=s)(hs:s<=100)(h1:1<=s)(p:Int)(hp:0<=p)(hp2:p+7*s<=1000000000):
  ∃(d2:List (List Int)) (bl2:List Bool) (q:Int),d2.length=s/\bl2.length=s/\(∀r∈d2,r.length=w)/\p<=q/\q<=p+7*s/\∀(R:Type) (L n m:Nat) (k:KE R),2<=n->2^60<=L->s<m->
  aM env (aA env L n) L 1 (W32 (W4 (W1 [1002]))) Bz6 (eO 0) Bz32 m (.ptr 0 0 0::Y1 (nI st::Y2 (Y1 (.ptr 1 0 0::.ptr 2 0 0::nI w::nI 0::Y32 (Y4 (Y2 (Y1 ([])))))))) (rdO c p::.box [nI 0,.sl 3 0 0 0,.sl 4 0 0 0]::.box [nI al,.sl 5 0 0 0,.sl 6 0 0 0]::.arr [] 0 0::.arr [] 0 0::.arr [] 0 0::.arr [] 0 0::[]) k
  =k (.exit 0) (.ptr 0 0 0::Y1 (nI st::Y2 (Y1 (.ptr 1 0 0::.ptr 2 0 0::nI w::nI s::Y32 (Y4 (Y2 (Y1 ([])))))))) (rdO c q::.box [nI 0,.sl 3 0 0 0,.sl 4 0 0 0]::.box [nI al,.sl 5 0 0 (List.length d2),.sl 6 0 0 (List.length bl2)]::.arr [] 0 0::.arr [] 0 0::.vec (aC 7 d2++aF 0) 1 0::.arr (aJ bl2) 1 0::aI d2):=by
 obtain⟨j,hj⟩:∃j,s=j+1:=⟨s-1,by omega⟩
 obtain⟨r,q,g1,g2,kd1⟩:=RQ hc (al:=al) (st:=st) (i9:=0) hw (cs:=[]) (z:=0) w 0 p [] (by omega) rfl hp (by omega);obtain⟨v,v0,v1,v2,kd2⟩:=fA hc q 3 (by omega) (by omega);obtain⟨d2,bl2,q2,e1,e2,e3,e4,e5,kd3⟩:=SP hc (al:=al) (st:=st) hw hst hs j 1 (q+1) [r] [decide (0<v)] (by omega) rfl rfl (by intro x hx;simp at hx;subst hx;exact g1) (by omega) (by omega);refine⟨d2,bl2,q2,e1,e2,e3,by omega,by omega,fun R L n m k hn hL hm=> ?_⟩;obtain _|m:=m;omega;have kd3':=kd3 R L n m k hn hL (by omega);have loop_c:=fun {R:Type} {n:Nat} {k:KE R} (hn:2<=n)=>kd1 R L n L k hn hL (by omega);simp only[Aq,oK]at loop_c;have e7:aC 7 [r]++aF 0=[.sl 7 0 0 r.length]:=rfl;have e8:aI [r]=[.arr (ints r) 1 0]:=rfl;have e9:aJ [decide (0<v)]=[.bool (decide (0<v))]:=rfl;rw[e7,e8,e9,g1]at kd3';simp only[Ad,Ac,Ag,show((1:Nat):Int)=1 from rfl]at kd3';have hc1:(0:Int)<st:=by omega
 generalize hbv:decide (0<v)=b at *;clear kd1 kd3;simp -implicitDefEqProofs (maxSteps:=2000000) (disch:=try exact Dz) only[↓DN,↓kAsg,↓kRet,UP,simprocAttr,hc1,hbv,↓loop_c,↓kd2,↓kd3',t8,sT,Tryz.f61]
theorem DX{c:List UInt8}(hc:c.length<=2000)(al st:Int){s:Nat}(hst:st=s)(hs:s<=100)(h1:1<=s)(p:Int)(hp:0<=p)(hp2:p+7*s<=1000000000):
  ∃(nx:List (List Int)) (ac:List Bool) (q:Int),nx.length=s/\ac.length=s/\(∀r∈nx,r.length=(aB al).length)/\p<=q/\q<=p+7*s/\∀(L n:Nat),3<=n->2^60<=L->
  aA env L n 61 [.ptr 0 0 0,nI al,nI st] [rdO c p]=some (autA 1 al nx.length ac.length,rdO c q::autO 1 nx ac):=by
 obtain⟨nx,ac,q,g1,g2,g3,g4,g5,kd⟩:=OM hc (al:=al) (st:=st) (w:=(aB al).length) (b9 al) hst hs h1 p hp hp2;refine⟨nx,ac,q,g1,g2,g3,g4,g5,fun L n hn hL=> ?_⟩;have loop_c:=fun {R:Type} {n:Nat} {k:KE R} (hn:2<=n)=>kd R L n L k hn hL (by omega);have hnl:nx.length<=4294967296:=by omega
 have hbl:(aJ ac).length=ac.length:=eP;unfold autA autO;clear kd;obtain _|n:=n;omega;simp -implicitDefEqProofs (maxSteps:=2000000) (disch:=try exact Dz) only[↓DN,↓kAsg,↓kRet,UP,simprocAttr,↓gP,↓loop_c,↓aPA,↓aN8,z0As,z0A,eq_self,aFq,aEI,aGw,SW,Tryz.f61]
end Ev
end Go.Proofs.YthlkcebdfbjdoaaGreat
