/-
  Words: what the functions on words give.
-/
import Derived.Test.YthlkcebdfbjdoaaGreatShlx
set_option linter.unusedSimpArgs false
set_option linter.unusedVariables false
set_option maxRecDepth 8000
set_option maxHeartbeats 4000000
namespace Go.Proofs.YthlkcebdfbjdoaaGreat
namespace Ev
section
variable{R:Type}{L n:Nat}
def ltr(b:UInt8):Int:=(b.toNat:Int)-97
def bR(l:Int):UInt8:=UInt8.ofNat (97+l).toNat
theorem aJJ{b:UInt8}:IntKind.i64.wrap ((b.toNat:Int)-97)=ltr b:=wS om (by have:=toNat_lt b;omega)
theorem UL{l:Int}(h0:0<=l)(h:l<=5):IntKind.u8.wrap (97+l)=((bR l).toNat:Int):=by
 rw[aQG om om];unfold bR;rw[UInt8.toNat_ofNat'];omega
theorem aDK(hn:1<=n)(s:List UInt8)(i:Int)(h0:0<=i)(h:i<s.length):aA env L n 148 [.d (.str s),nI i] []=some (nI (ltr (s.getD i.toNat 0)),[]):=by
 obtain _|n:=n;omega
 simp-implicitDefEqProofs (maxSteps:=9^7) (disch:=try exact Dz) only[↓DN,↓kAsg,↓kRet,UP,simprocAttr,↓MR,aJJ,aLE,aHR,Tryz.f148]
theorem TN:type_of% fun {L} s i h0 h=>ks fun hn=> @aDK L _ hn s i h0 h:=fun {L} s i h0 h=>ks fun hn=> @aDK L _ hn s i h0 h
theorem O4(hn:1<=n)(s:List UInt8)(i:Int)(h0:0<=i)(h:i<s.length):aA env L n 42 [.d (.str s),nI i] []=some (nI (if pW (ltr (s.getD i.toNat 0))then ltr (s.getD i.toNat 0)else -1),[]):=by
 obtain _|n:=n;omega
 simp-implicitDefEqProofs (maxSteps:=9^7) (disch:=try exact Dz) only[↓DN,↓kAsg,↓kRet,UP,simprocAttr,↓MR,aJJ,aFE,SY,Tryz.f42];generalize ltr (s.getD i.toNat 0)=v;unfold pW
 by_cases h1:v<0
 ·have h2:¬0<=v:=om;simp[h1,h2]
 ·have h2:0<=v:=om
  by_cases h3:6<=v
  ·have h4:¬v<6:=om;simp[h1,h2,h3,h4]
  ·have h4:v<6:=om;simp[h1,h2,h3,h4]
theorem P4:type_of% fun {L} s i h0 h=>ks fun hn=> @O4 L _ hn s i h0 h:=fun {L} s i h0 h=>ks fun hn=> @O4 L _ hn s i h0 h
theorem JB(hn:1<=n)(l:Int)(h0:0<=l)(h:l<=5):aA env L n 64 [nI l] []=some (.d (.int .u8 (bR l).toNat),[]):=by
 have e:IntKind.u8.wrap (97+l)=((bR l).toNat:Int):=UL h0 h;obtain _|n:=n;omega
 simp-implicitDefEqProofs (maxSteps:=9^7) (disch:=try exact Dz) only[↓DN,↓kAsg,↓kRet,UP,simprocAttr,↓aCW,e,aBI,MN,Tryz.f64]
theorem H8:type_of% fun {L} l h0 h=>ks fun hn=> @JB L _ hn l h0 h:=fun {L} l h0 h=>ks fun hn=> @JB L _ hn l h0 h
def okB(b:UInt8):Bool:=pW (ltr b)
def cJ(s:List UInt8):Bool:=decide (s.length<=50000)&&s.all okB
def upTo{α:Type}(p:α->Bool)(l:List α)(i:Nat):Int:=(i:Int)+((l.drop i).takeWhile p).length
theorem aG6{α:Type}{p:α->Bool}{l:List α}:upTo p l l.length=l.length:=by
 unfold upTo;simp
theorem aEm{α:Type}{p:α->Bool}{l:List α}{i:Nat}{d:α}(h:i<l.length)(hp:p (l.getD i d)=false):upTo p l i=i:=by
 unfold upTo;rw[Aa,Ae h]at hp;simp only[Bb]at hp;rw[Dp h,List.takeWhile_cons,hp];simp
theorem aJb{α:Type}{p:α->Bool}{l:List α}{i:Nat}{d:α}(h:i<l.length)(hp:p (l.getD i d)=true):upTo p l i=upTo p l (i+1):=by
 unfold upTo;rw[Aa,Ae h]at hp;simp only[Bb]at hp;rw[Dp h,List.takeWhile_cons,hp]
 simp;omega
theorem aFT{α:Type}{p:α->Bool}{l:List α}{i:Nat}{d:α}(h:i<l.length)(hp:p (l.getD i d)=false):(l.drop i).all p=false:=by
 rw[Aa,Ae h]at hp;simp only[Bb]at hp;rw[Dp h,Br,hp];rfl
theorem aMS{α:Type}{p:α->Bool}{l:List α}{i:Nat}{d:α}(h:i<l.length)(hp:p (l.getD i d)=true):(l.drop i).all p=(l.drop (i+1)).all p:=by
 rw[Aa,Ae h]at hp;simp only[Bb]at hp;rw[Dp h,Br,hp];rfl
theorem HL(hn:1<=n){s:List UInt8}(hs:s.length<4294967296){k:KE R}:∀(i:Int) (m:Nat) (h0:0<=i) (hi:i<=s.length) (hm:(s.length:Int)-i<m),
  aS env (aA env L n) L 0 [] Bz55 (y4 0) (Z1 (U1 (Z2 (U16 (U2 (U1 ([]))))))) m (.d (.str s)::Y1 (.d (.bool false)::nI i::Y16 (Y2 (Y1 ([]))))) [] k
  =if(s.drop i.toNat).all okB then k (.exit 0) (.d (.str s)::Y1 (.d (.bool false)::nI (upTo okB s i.toNat)::Y16 (Y2 (Y1 ([]))))) []else k .ret (.d (.str s)::Y1 (.d (.bool false)::nI (upTo okB s i.toNat)::Y16 (Y2 (Y1 ([]))))) []:=by
 intro i m h0 hi hm;obtain⟨j,hj⟩:∃j:Nat,(j:Int)=(s.length:Int)-i:=⟨((s.length:Int)-i).toNat,by omega⟩
 induction j generalizing i m with
 |zero=>
  obtain _|m:=m;omega;obtain rfl:i=s.length:=om
  simp-implicitDefEqProofs (maxSteps:=9^7) (disch:=try exact Dz) only[↓DN,↓kRet,UP,simprocAttr,Aj,lA,lL,Tryz.f136];simp only[Bz,Ca,if_true,aG6]
 |succ j ih=>
  obtain _|m:=m;omega;have hc:i<s.length:=om;have hk:i.toNat<s.length:=om;have e1:(i+1).toNat=i.toNat+1:=om
  cases hb:okB (s.getD i.toNat 0)with
  |true=>
   have hb':=hb;unfold okB pW at hb';simp only[decide_eq_true_eq]at hb';have n1:¬ltr (s.getD i.toNat 0)<0:=om;have n2:¬6<=ltr (s.getD i.toNat 0):=om
   simp-implicitDefEqProofs (maxSteps:=9^7) (disch:=try exact Dz) only[↓DN,↓kRet,UP,simprocAttr,hc,↓TN,n1,n2,↓ih,lA,lL,Tryz.f136];rw[e1,aMS hk hb,aJb hk hb]
  |false=>
   have hb':=hb;unfold okB pW at hb';simp only[decide_eq_false_iff_not]at hb';rw[aFT hk hb,aEm hk hb]
   by_cases n1:ltr (s.getD i.toNat 0)<0
   ·simp-implicitDefEqProofs (maxSteps:=9^7) (disch:=try exact Dz) only[↓DN,↓kAsg,↓kRet,UP,simprocAttr,hc,↓TN,n1,lA,lL,Tryz.f136];rw[Cr h0]
   ·have n2:6<=ltr (s.getD i.toNat 0):=om
    simp-implicitDefEqProofs (maxSteps:=9^7) (disch:=try exact Dz) only[↓DN,↓kAsg,↓kRet,UP,simprocAttr,hc,↓TN,n1,n2,lA,lL,Tryz.f136];rw[Cr h0]
theorem MT(hn:2<=n)(s:List UInt8)(hL:2^60<=L):aA env L n 136 [.d (.str s)] []=some (.d (.bool (cJ s)),[]):=by
 unfold cJ
 by_cases hs:s.length<=50000
 ·have hs':¬(50000:Int)<s.length:=om
  cases ha:s.all okB with
  |true=>
   obtain _|n:=n;omega
   simp-implicitDefEqProofs (maxSteps:=9^7) (disch:=try exact Dz) only[↓DN,↓kAsg,↓kRet,UP,simprocAttr,hs',↓HL,ha,AB,uE,Tryz.f136];simp[hs]
  |false=>
   obtain _|n:=n;omega
   simp-implicitDefEqProofs (maxSteps:=9^7) (disch:=try exact Dz) only[↓DN,↓kAsg,↓kRet,UP,simprocAttr,hs',↓HL,ha,AB,uE,Tryz.f136]
   all_goals simp
 ·have hs':(50000:Int)<s.length:=om;obtain _|n:=n;omega
  simp-implicitDefEqProofs (maxSteps:=9^7) (disch:=try exact Dz) only[↓DN,↓kAsg,↓kRet,UP,simprocAttr,hs',AB,uE,Tryz.f136];simp[hs]
theorem zV:type_of% fun {L} s hL=>ks fun hn=> @MT L _ hn s hL:=fun {L} s hL=>ks fun hn=> @MT L _ hn s hL
def inB(a:Int)(b:UInt8):Bool:=okB b&&dS a (ltr b)
def lJ(a:Int)(s:List UInt8):Bool:=jF a&&decide (s.length<=50000)&&s.all (inB a)
theorem aMt{a:Int}{b:UInt8}:(decide (0<=(if pW (ltr b)then ltr b else -1))&&dS a (if pW (ltr b)then ltr b else -1))=inB a b:=by
 unfold inB okB
 cases h:pW (ltr b)with
 |true=>
  have:=aDU.1 h;have h2:0<=ltr b:=om;simp[h2]
 |false=>simp
theorem DM(hn:1<=n){s:List UInt8}{a:Int}(hs:s.length<4294967296){k:KE R}:∀(i:Int) (m:Nat) (h0:0<=i) (hi:i<=s.length) (hm:(s.length:Int)-i<m),
  aS env (aA env L n) L 0 [] Bz41 (x4 0) (Z2 (U2 (Z1 (U8 (U2 (Z2 (U8 (U1 ([]))))))))) m (.d (.str s)::nI a::Y2 (.d (.bool false)::Y8 (Y2 (nI (s.length)::nI i::Y8 (Y1 ([])))))) [] k
  =if(s.drop i.toNat).all (inB a)then k (.exit 0) (.d (.str s)::nI a::Y2 (.d (.bool false)::Y8 (Y2 (nI (s.length)::nI (upTo (inB a) s i.toNat)::Y8 (Y1 ([])))))) []else k .ret (.d (.str s)::nI a::Y2 (.d (.bool false)::Y8 (Y2 (nI (s.length)::nI (upTo (inB a) s i.toNat)::Y8 (Y1 ([])))))) []:=by
 intro i m h0 hi hm;obtain⟨j,hj⟩:∃j:Nat,(j:Int)=(s.length:Int)-i:=⟨((s.length:Int)-i).toNat,by omega⟩
 induction j generalizing i m with
 |zero=>
  obtain _|m:=m;omega;obtain rfl:i=s.length:=om
  simp-implicitDefEqProofs (maxSteps:=9^7) (disch:=try exact Dz) only[↓DN,↓kRet,UP,simprocAttr,Aj,pE,nQ,Tryz.f12];simp only[Bz,Ca,if_true,aG6]
 |succ j ih=>
  obtain _|m:=m;omega;have hc:i<s.length:=om;have hk:i.toNat<s.length:=om;have e1:(i+1).toNat=i.toNat+1:=om
  cases hb:inB a (s.getD i.toNat 0)with
  |true=>
   simp-implicitDefEqProofs (maxSteps:=9^7) (disch:=try exact Dz) only[↓DN,↓kRet,UP,simprocAttr,hc,↓P4,↓N9,aMt,hb,↓ih,pE,nQ,Tryz.f12];rw[e1,aMS hk hb,aJb hk hb]
  |false=>
   rw[aFT hk hb,aEm hk hb]
   simp-implicitDefEqProofs (maxSteps:=9^7) (disch:=try exact Dz) only[↓DN,↓kAsg,↓kRet,UP,simprocAttr,hc,↓P4,↓N9,aMt,hb,pE,nQ,Tryz.f12];rw[Cr h0]
theorem J2(hn:2<=n)(s:List UInt8)(a:Int)(hL:2^60<=L):aA env L n 12 [.d (.str s),nI a] []=some (.d (.bool (lJ a s)),[]):=by
 unfold lJ
 cases hal:jF a with
 |false=>
  obtain _|n:=n;omega
  simp-implicitDefEqProofs (maxSteps:=9^7) (disch:=try exact Dz) only[↓DN,↓kAsg,↓kRet,UP,simprocAttr,↓dR,hal,pX,m2,Tryz.f12]
  all_goals rfl
 |true=>
  by_cases hs:s.length<=50000
  ·have hs':¬(50000:Int)<s.length:=om
   cases ha:s.all (inB a)with
   |true=>
    obtain _|n:=n;omega
    simp-implicitDefEqProofs (maxSteps:=9^7) (disch:=try exact Dz) only[↓DN,↓kAsg,↓kRet,UP,simprocAttr,↓dR,hal,hs',↓DM,ha,pX,m2,Tryz.f12];simp[hs]
   |false=>
    obtain _|n:=n;omega
    simp-implicitDefEqProofs (maxSteps:=9^7) (disch:=try exact Dz) only[↓DN,↓kAsg,↓kRet,UP,simprocAttr,↓dR,hal,hs',↓DM,ha,pX,m2,Tryz.f12]
    all_goals simp
  ·have hs':(50000:Int)<s.length:=om;obtain _|n:=n;omega
   simp-implicitDefEqProofs (maxSteps:=9^7) (disch:=try exact Dz) only[↓DN,↓kAsg,↓kRet,UP,simprocAttr,↓dR,hal,hs',pX,m2,Tryz.f12];simp[hs]
theorem aBy:type_of% fun {L} s a hL=>ks fun hn=> @J2 L _ hn s a hL:=fun {L} s a hL=>ks fun hn=> @J2 L _ hn s a hL
theorem MO(hn:3<=n)(s:List UInt8)(hL:2^60<=L):aA env L n 43 [.d (.str s)] []=some (.d (.bool (cJ s)),[]):=by
 have e:lJ 63 s=cJ s:=by
  unfold lJ cJ
  have:inB 63=okB:=by
   funext b
   unfold inB okB
   cases h:pW (ltr b)with
   |false=>rfl
   |true=>
    have hb:=aDU.1 h;have:ltr b=0\/ltr b=1\/ltr b=2\/ltr b=3\/ltr b=4\/ltr b=5:=om
    rcases this with h|h|h|h|h|h<;>rw[h]<;>decide
  rw[this];rfl
 obtain _|n:=n;omega
 simp-implicitDefEqProofs (maxSteps:=9^7) (disch:=try exact Dz) only[↓DN,↓kAsg,UP,simprocAttr,↓aBy,e,aC6,P8,Tryz.f43]
theorem zM:type_of% fun {L} s hL=>ks fun hn=> @MO L _ hn s hL:=fun {L} s hL=>ks fun hn=> @MO L _ hn s hL
end
theorem bX{R:Type}{call:aU}{h:H}{f:FuncId}{args:List A}{c:List UInt8}{p q:Int}{r:A}{k:KA R}(hm:(env.hint f).mode=0)(ha:idsL args=[])(hr:idsA r=[])(he:call f (.ptr 0 0 0::args) [rdO c p]=some (r,[rdO c q])):
  aW env call (rdO c p::h) f (.ptr 0 0 0::args) k=k r (rdO c q::h):=by
 have hid:idsL (A.ptr 0 0 0::args)=[0]:=by simp[idsL,idsA,ha]
 have hre:aD aG (rdO c p::h) [0] []=[0]:=rfl;have hpk:pack (rdO c p::h) [0]=[rdO c p]:=rfl
 have hma:aE (aI [0]) (A.ptr 0 0 0::args)=A.ptr 0 0 0::args:=by
  simp only[aE,gN _ ha];rfl
 unfold aW;rw[hid,hre,hpk,hma]
 have hc:bS call env.hint [rdO c p] f (.ptr 0 0 0::args)=some (r,[rdO c q]):=by
  unfold bS;rw[hm];exact he
 rw[hc];have hcl:closed (rdO c p::h) [0] [0]=true:=rfl;simp only[Ad,Ac,Ab,hcl,and_self,if_true,qH r hr]
 congr 1
 simp[bF,mapO,aE,mapA]
theorem aBj:(env.hint 49).mode=0:=kr
theorem aKD{a b:Int}(ha:0<=a)(ha2:a<2^62)(hb:0<=b)(hb2:b<2^62):0<=iXor .i64 a b/\iXor .i64 a b<2^62:=by
 obtain⟨m,rfl⟩:=Dj ha;obtain⟨n,rfl⟩:=Dj hb;have hm:m<2^62:=om;have hn:n<2^62:=om
 have hx:(BitVec.ofInt 64 (m:Int)^^^BitVec.ofInt 64 (n:Int)).toNat=m^^^n:=by
  rw[BitVec.toNat_xor]
  congr 1<;>(simp only[BitVec.ofInt_natCast,BitVec.toNat_ofNat];omega)
 have hlt:m^^^n<2^62:=Nat.xor_lt_two_pow hm hn;unfold iXor;have:(BitVec.ofInt IntKind.i64.bits (m:Int)^^^BitVec.ofInt IntKind.i64.bits (n:Int)).toNat=m^^^n:=hx;rw[this,wS om om];omega
theorem d8{c:List UInt8}(hc:c.length<=2000)(p b:Int)(hp:0<=p)(hp2:p<=1000000000):∃v:Int,0<=v/\(1<=b->v<b)/\(b<1->v=0)/\(Dw 1 49 [nI b] (nI v) c p (p+1)):=by
 by_cases h1:b<1
 ·refine⟨0,by omega,by omega,by omega,fun R L n hq k hn hL=>bX aBj rfl rfl ?_⟩;obtain _|n:=n;omega
  simp-implicitDefEqProofs (maxSteps:=9^7) (disch:=try exact Dz) only[↓DN,↓kAsg,↓kRet,UP,simprocAttr,h1,pZ,m5,Tryz.f49]
 ·by_cases h2:c.length=0
  ·refine⟨0,by omega,by omega,by omega,fun R L n hq k hn hL=>bX aBj rfl rfl ?_⟩;have h2':(c.length:Int)=0:=om;obtain _|n:=n;omega
   simp-implicitDefEqProofs (maxSteps:=9^7) (disch:=try exact Dz) only[↓DN,↓kAsg,↓kRet,UP,simprocAttr,h1,h2',pZ,m5,Tryz.f49]
  ·have h2':¬(c.length:Int)=0:=om
   by_cases h3:p<c.length
   ·have hb:b≠0:=om;have t0:0<=((c.getD p.toNat 0).toNat:Int).tmod b:=Int.tmod_nonneg b om;have t1:((c.getD p.toNat 0).toNat:Int).tmod b<b:=Int.tmod_lt_of_pos _ om;refine⟨((c.getD p.toNat 0).toNat:Int).tmod b,t0,fun _=>t1,by omega,fun R L n hq k hn hL=>bX aBj rfl rfl ?_⟩;have e1:p+1-1=p:=om;obtain _|n:=n;omega
    simp-implicitDefEqProofs (maxSteps:=9^7) (disch:=try exact Dz) only[↓DN,↓kAsg,↓kRet,UP,simprocAttr,h1,h2',e1,h3,pZ,m5,Tryz.f49]
   ·have e1:p+1-1=p:=om;have hl1:(0:Int)<c.length:=om;have q1:0<=p.tmod c.length:=Int.tmod_nonneg _ hp;have q2:p.tmod c.length<c.length:=Int.tmod_lt_of_pos _ hl1;have q3:0<=(p*7+3).tmod c.length:=Int.tmod_nonneg _ om;have q4:(p*7+3).tmod c.length<c.length:=Int.tmod_lt_of_pos _ hl1;have q5:0<=p.tdiv c.length:=Int.tdiv_nonneg hp om;have q6:p.tdiv c.length<=p:=Int.tdiv_le_self _ hp;have b1:=toNat_lt (c.getD (p.tmod c.length).toNat 0);have b2:=toNat_lt (c.getD ((p*7+3).tmod c.length).toNat 0);have r1:(p.tmod c.length).toNat<c.length:=om;have r2:((p*7+3).tmod c.length).toNat<c.length:=om;obtain⟨x,hx⟩:∃x:Int,x=((c.getD (p.tmod c.length).toNat 0).toNat:Int)*131+((c.getD ((p*7+3).tmod c.length).toNat 0).toNat:Int)*1117+p*29+p.tdiv c.length*53:=⟨_,rfl⟩
    have x0:0<=x:=om;have x1:x<2^62:=om;have y0:0<=x.tdiv 64:=Int.tdiv_nonneg x0 om;have y1:x.tdiv 64<2^62:=by have:=Int.tdiv_le_self 64 x0;omega
    have z:=aKD x0 x1 y0 y1;have hb:b≠0:=om;have t0:0<=(iXor .i64 x (x.tdiv 64)).tmod b:=Int.tmod_nonneg b z.1;have t1:(iXor .i64 x (x.tdiv 64)).tmod b<b:=Int.tmod_lt_of_pos _ om;refine⟨(iXor .i64 x (x.tdiv 64)).tmod b,t0,fun _=>t1,by omega,fun R L n hq k hn hL=>bX aBj rfl rfl ?_⟩;clear b1 b2 z t0 t1;have b1:=toNat_lt (c.getD (p.tmod c.length).toNat 0);have b2:=toNat_lt (c.getD ((p*7+3).tmod c.length).toNat 0);subst hx;obtain _|n:=n;omega
    simp-implicitDefEqProofs (maxSteps:=9^7) (disch:=try exact Dz) only[↓DN,↓kAsg,↓kRet,UP,simprocAttr,h1,h2',e1,h3,pZ,m5,Tryz.f49]
theorem aQE:(env.hint 62).mode=0:=kr
theorem m_of:(env.hint 87).mode=0:=kr
theorem aLT{R:Type}{call:aU}{hq:H}{f:FuncId}{c:List UInt8}{p q:Int}{r:A}{k:KA R}{cs:List D}{e g n id:Nat}(hi:hq[id]? =some (.arr cs e g))(hm:(env.hint f).mode=0)(hr:idsA r=[])(he:call f [.ptr 0 0 0,.sl 1 g 0 n] [rdO c p,.arr cs e g]=some (r,[rdO c q,.arr cs e g])):
  aW env call (rdO c p::hq) f [.ptr 0 0 0,.sl (id+1) g 0 n] k=k r (rdO c q::hq):=by
 have hlk:(rdO c p::hq)[id+1]? =some (.arr cs e g):=by rw[Au];exact hi
 have hre:aD aG (rdO c p::hq) [0,id+1] []=[0,id+1]:=by
  have e1:aD aG (rdO c p::hq) [0,id+1] []=aD (aG-1) (rdO c p::hq) [id+1] [0]:=rfl
  have e2:aD (aG-1) (rdO c p::hq) [id+1] [0]=if [0].contains (id+1)=true then aD (aG-2) (rdO c p::hq) [] [0]else match(rdO c p::hq)[id+1]? with
   |some (.box cs)=>aD (aG-2) (rdO c p::hq) ([]++idsL cs) ([0]++[id+1])
   |some (.vec cs _ _)=>aD (aG-2) (rdO c p::hq) ([]++idsL cs) ([0]++[id+1])
   |some .void=>aD (aG-2) (rdO c p::hq) [] [0]
   |some _=>aD (aG-2) (rdO c p::hq) [] ([0]++[id+1])
   |none=>aD (aG-2) (rdO c p::hq) [] [0]:=rfl
  have e3:[0].contains (id+1)=false:=sm;rw[e1,e2,e3,hlk];rfl
 have hpk:pack (rdO c p::hq) [0,id+1]=[rdO c p,.arr cs e g]:=by
  simp only[pack,Ah,Ap,Aa,hlk]<;>rfl
 unfold aW;have hid:idsL [A.ptr 0 0 0,A.sl (id+1) g 0 n]=[0,id+1]:=rfl;rw[hid,hre,hpk]
 have hma:aE (aI [0,id+1]) [A.ptr 0 0 0,A.sl (id+1) g 0 n]=[A.ptr 0 0 0,A.sl 1 g 0 n]:=by
  simp[aE,mapA,aI]
 rw[hma]
 have hc:bS call env.hint [rdO c p,.arr cs e g] f [.ptr 0 0 0,.sl 1 g 0 n]=some (r,[rdO c q,.arr cs e g]):=by
  unfold bS;rw[hm];exact he
 rw[hc]
 have hcl:closed (rdO c p::hq) [0,id+1] [0,id+1]=true:=by
  simp only[closed,Br,Ca,hlk,Cn];simp[idsL,idsA]
 simp only[Ad,Ac,Ab,hcl,and_self,if_true,qH r hr]
 congr 1
 simp only[bF,mapO,aE,mapA,Ap,Ai,Cd,Bn]
 congr 1
 exact aPo hi
theorem ZU{α:Type}{l:List α}{k:Nat}{d:α}(h:k<l.length):l.getD k d∈l:=by
 rw[Aa,Ae h];exact Az h
theorem aQp{c:List UInt8}(hc:c.length<=2000)(l:List Int)(g:Nat)(hl:0<l.length)(hl2:l.length<1000)(p:Int)(hp:0<=p)(hp2:p<=1000000000):∃v:Int,v∈l/\∀(L n:Nat),2<=n->2^60<=L->aA env L n 62 [.ptr 0 0 0,.sl 1 g 0 l.length] [rdO c p,.arr (ints l) 1 g]=some (nI v,[rdO c (p+1),.arr (ints l) 1 g]):=by
 obtain⟨v,v0,v1,_,kd⟩:=d8 hc p l.length hp hp2;have v1:=v1 om;have hk:v.toNat<l.length:=om;refine⟨l.getD v.toNat 0,ZU hk,fun L n hn hL=> ?_⟩;obtain _|n:=n;omega
 simp-implicitDefEqProofs (maxSteps:=9^7) (disch:=try exact Dz) only[↓DN,↓kAsg,↓kRet,UP,simprocAttr,↓kd,aDo,PL,Tryz.f62]
theorem xP{c:List UInt8}(hc:c.length<=2000)(l:List Int)(hl:0<l.length)(hl2:l.length<1000)(p:Int)(hp:0<=p)(hp2:p<=1000000000):∃v:Int,v∈l/\(∀(R:Type) (L n id:Nat) (hq:H) (k:KA R),2<=n->2^60<=L->hq[id]? =some (.arr (ints l) 1 0)->aW env (aA env L n) (rdO c p::hq) 62 [.ptr 0 0 0,.sl (id+1) 0 0 l.length] k=k (nI v) (rdO c (p+1)::hq)):=by
 obtain⟨v,hv,he⟩:=aQp hc l 0 hl hl2 p hp hp2;exact⟨v,hv,fun R L n id hq k hn hL hi=>aLT hi aQE rfl (he L n hn hL)⟩
def aK(l:List (List UInt8)):List D:=l.map .str
theorem dW{l:List (List UInt8)}:(aK l).length=l.length:=by simp[aK]
theorem M8{l:List (List UInt8)}{k:Nat}(h:k<l.length):(((aK l).drop k).map A.d).head? =some (.d (.str (l.getD k []))):=by
 rw[List.head?_map,Cy,aK,Bd,Aa,Ae h];rfl
theorem aP0{c:List UInt8}(hc:c.length<=2000)(l:List (List UInt8))(hl:0<l.length)(hl2:l.length<1000)(p:Int)(hp:0<=p)(hp2:p<=1000000000):∃v:List UInt8,v∈l/\(Dw 2 87 [.d (.ivs l.length (aK l))] (.d (.str v)) c p (p+1)):=by
 obtain⟨v,v0,v1,_,kd⟩:=d8 hc p l.length hp hp2;have v1:=v1 om;have hk:v.toNat<l.length:=om;refine⟨l.getD v.toNat [],ZU hk,fun R L n hq k hn hL=>bX m_of rfl rfl ?_⟩;obtain _|n:=n;omega
 simp-implicitDefEqProofs (maxSteps:=9^7) (disch:=try exact Dz) only[↓DN,↓kAsg,↓kRet,UP,simprocAttr,↓kd,dW,M8,aFe,QZ,Tryz.f87]
theorem ZR{R:Type}{L n:Nat}(hn:1<=n){a:Int}{k:KE R}:∀(i:Int) (m:Nat) (l:List Int) (len:Nat) (h0:0<=i) (hi:i<=6) (hm:6-i<m) (hl:len=l.length) (hlen:(l.length:Int)<=i),
  aS env (aA env L n) L 0 [] Bz47 (zF 0) (Z1 (U1 (Z2 (Z1 (U8 (U4 (U1 ([])))))))) m (nI a::Y1 (.d .nils::.sl 0 0 0 len::nI i::Y8 (Y4 (Y1 ([]))))) [.arr (ints l) 1 0] k
  =k (.exit 0) (nI a::Y1 (.d .nils::.sl 0 0 0 (len+((pF (6-i).toNat).filter (dS a)).length)::nI 6::Y8 (Y4 (Y1 ([]))))) [.arr (ints (l++(pF (6-i).toNat).filter (dS a))) 1 0]:=by
 intro i m l len h0 hi hm hl hlen;obtain⟨j,hj⟩:∃j:Nat,(j:Int)=(6:Int)-i:=⟨((6:Int)-i).toNat,by omega⟩
 induction j generalizing i m l len with
 |zero=>
  obtain _|m:=m;omega;obtain rfl:i=6:=om
  simp-implicitDefEqProofs (maxSteps:=9^7) (disch:=try exact Dz) only[↓DN,↓kRet,UP,simprocAttr,qZ,pU,Tryz.f72];simp only[pF,List.filter_nil,Ai,Ac,Bs]
 |succ j ih=>
  obtain _|m:=m;omega;have hc:i<6:=om;have e1:(6-i).toNat=j+1:=om;have e2:(6-(i+1)).toNat=j:=om;have hr:pF (j+1)=i::pF j:=by simp only[pF];congr 1;omega
  rw[e1,hr,List.filter_cons]
  cases hb:dS a i with
  |true=>
   simp-implicitDefEqProofs (maxSteps:=9^7) (disch:=try exact Dz) only[↓DN,↓kRet,UP,simprocAttr,↓rV,↓ih,hc,hb,e2,qZ,pU,Tryz.f72];simp only[Am,Av,Ao,Nat.add_assoc,Nat.add_comm 1]
  |false=>
   simp-implicitDefEqProofs (maxSteps:=9^7) (disch:=try exact Dz) only[↓DN,↓kRet,UP,simprocAttr,↓rV,↓ih,hc,hb,e2,qZ,pU,Tryz.f72]
theorem aQf:pF (6-(0:Int)).toNat=[0,1,2,3,4,5]:=rfl
theorem MC{L n:Nat}(hn:2<=n)(a:Int)(hL:2^60<=L):aA env L n 72 [nI a] []=some (.d (.ivs (aB a).length (ints (aB a))),[]):=by
 unfold aB;rw[<-aQf];obtain _|n:=n;omega
 simp-implicitDefEqProofs (maxSteps:=9^7) (disch:=try exact Dz) only[↓DN,↓kAsg,↓kRet,UP,simprocAttr,aNf,↓ZR,aCS,PX,Tryz.f72]
theorem fQ:type_of% fun {L} a hL=>ks fun hn=> @MC L _ hn a hL:=fun {L} a hL=>ks fun hn=> @MC L _ hn a hL
theorem XF{L n:Nat}(hn:1<=n)(l:Int)(h0:0<=l)(h:l<=5):aA env L n 77 [nI l] []=some (.d (.str [bR l]),[]):=by
 have e:IntKind.u8.wrap (97+l)=((bR l).toNat:Int):=UL h0 h;have e2:[D.int .u8 ((bR l).toNat:Int)]=bD [bR l]:=rfl;obtain _|n:=n;omega
 simp-implicitDefEqProofs (maxSteps:=9^7) (disch:=try exact Dz) only[↓DN,↓kAsg,↓kRet,UP,simprocAttr,e,e2,↓zW,aIk,aBL,Tryz.f77]
theorem KN:type_of% fun {L} l h0 h=>ks fun hn=> @XF L _ hn l h0 h:=fun {L} l h0 h=>ks fun hn=> @XF L _ hn l h0 h
end Ev
end Go.Proofs.YthlkcebdfbjdoaaGreat
