/-
  Words: what the functions on words give.
-/
import Derived.Test.YtppffbehejpglaaGreatDoorTop
import Derived.Test.YtppffbehejpglaaGreatDoorShRn
import Derived.Test.YtppffbehejpglaaGreatDoorCopy
set_option linter.unusedSimpArgs false
set_option linter.unusedVariables false
set_option linter.unusedSectionVars false
set_option maxRecDepth 8000
set_option maxHeartbeats 4000000
namespace Go.Proofs.YtppffbehejpglaaGreatDoor
namespace Ev
section
variable{R:Type}{L n:Nat}
def ltr(b:UInt8):Int:=(b.toNat:Int)-97
def bU(l:Int):UInt8:=UInt8.ofNat (97+l).toNat
theorem aPH{b:UInt8}:IntKind.i64.wrap ((b.toNat:Int)-97)=ltr b:=BL om (by have:=toNat_lt b;omega)
theorem aI7{l:Int}(h0:0<=l)(h:l<=5):IntKind.u8.wrap (97+l)=((bU l).toNat:Int):=by
 rw[aXI om om];unfold bU;rw[UInt8.toNat_ofNat'];omega
theorem aJK(hn:1<=n)(s:List UInt8)(i:Int)(h0:0<=i)(h:i<s.length):aA env L n 145 [.d (.str s),nI i] []=some (nI (ltr (s.getD i.toNat 0)),[]):=by
 obtain _|n:=n;omega
 simp-implicitDefEqProofs (maxSteps:=9^7) (disch:=try exact Dz) only[↓DN,↓kAsg,↓kRet,UP,simprocAttr,↓SJ,aPH,aSy,aLh,Tryz.f145]
theorem FL:type_of% fun {L} s i h0 h=>ks fun hn=> @aJK L _ hn s i h0 h:=fun {L} s i h0 h=>ks fun hn=> @aJK L _ hn s i h0 h
theorem V8(hn:1<=n)(s:List UInt8)(i:Int)(h0:0<=i)(h:i<s.length):aA env L n 103 [.d (.str s),nI i] []=some (nI (if fA (ltr (s.getD i.toNat 0))then ltr (s.getD i.toNat 0)else -1),[]):=by
 obtain _|n:=n;omega
 simp-implicitDefEqProofs (maxSteps:=9^7) (disch:=try exact Dz) only[↓DN,↓kAsg,↓kRet,UP,simprocAttr,↓SJ,aPH,aKH,Z5,Tryz.f103];generalize ltr (s.getD i.toNat 0)=v;unfold fA
 by_cases h1:v<0
 ·have h2:¬0<=v:=om;simp[h1,h2]
 ·have h2:0<=v:=om
  by_cases h3:6<=v
  ·have h4:¬v<6:=om;simp[h1,h2,h3,h4]
  ·have h4:v<6:=om;simp[h1,h2,h3,h4]
theorem G0:type_of% fun {L} s i h0 h=>ks fun hn=> @V8 L _ hn s i h0 h:=fun {L} s i h0 h=>ks fun hn=> @V8 L _ hn s i h0 h
theorem M5(hn:1<=n)(l:Int)(h0:0<=l)(h:l<=5):aA env L n 37 [nI l] []=some (.d (.int .u8 (bU l).toNat),[]):=by
 have e:IntKind.u8.wrap (97+l)=((bU l).toNat:Int):=aI7 h0 h;obtain _|n:=n;omega
 simp-implicitDefEqProofs (maxSteps:=9^7) (disch:=try exact Dz) only[↓DN,↓kAsg,↓kRet,UP,simprocAttr,↓aHZ,e,aEQ,SR,Tryz.f37]
theorem N4:type_of% fun {L} l h0 h=>ks fun hn=> @M5 L _ hn l h0 h:=fun {L} l h0 h=>ks fun hn=> @M5 L _ hn l h0 h
def okB(b:UInt8):Bool:=fA (ltr b)
def dR(s:List UInt8):Bool:=decide (s.length<=50000)&&s.all okB
def upTo{α:Type}(p:α->Bool)(l:List α)(i:Nat):Int:=(i:Int)+((l.drop i).takeWhile p).length
theorem aMo{α:Type}{p:α->Bool}{l:List α}:upTo p l l.length=l.length:=by
 unfold upTo;simp
theorem aJr{α:Type}{p:α->Bool}{l:List α}{i:Nat}{d:α}(h:i<l.length)(hp:p (l.getD i d)=false):upTo p l i=i:=by
 unfold upTo;rw[Aa,Ad h]at hp;simp only[Bg]at hp;rw[Dt h,List.takeWhile_cons,hp];simp
theorem aPe{α:Type}{p:α->Bool}{l:List α}{i:Nat}{d:α}(h:i<l.length)(hp:p (l.getD i d)=true):upTo p l i=upTo p l (i+1):=by
 unfold upTo;rw[Aa,Ad h]at hp;simp only[Bg]at hp;rw[Dt h,List.takeWhile_cons,hp]
 simp;omega
theorem aNo{α:Type}{p:α->Bool}{l:List α}{i:Nat}{d:α}(h:i<l.length)(hp:p (l.getD i d)=false):(l.drop i).all p=false:=by
 rw[Aa,Ad h]at hp;simp only[Bg]at hp;rw[Dt h,Bx,hp];rfl
theorem aRg{α:Type}{p:α->Bool}{l:List α}{i:Nat}{d:α}(h:i<l.length)(hp:p (l.getD i d)=true):(l.drop i).all p=(l.drop (i+1)).all p:=by
 rw[Aa,Ad h]at hp;simp only[Bg]at hp;rw[Dt h,Bx,hp];rfl
theorem KQ(hn:1<=n){s:List UInt8}(hs:s.length<4294967296){k:KE R}:∀(i:Int) (m:Nat) (h0:0<=i) (hi:i<=s.length) (hm:(s.length:Int)-i<m),
  aT env (aA env L n) L 0 [] Bz65 (DD 0) (Z1 (U1 (Z2 (U16 (U2 (U1 ([]))))))) m (.d (.str s)::Y1 (.d (.bool false)::nI i::Y16 (Y2 (Y1 ([]))))) [] k
  =if(s.drop i.toNat).all okB then k (.exit 0) (.d (.str s)::Y1 (.d (.bool false)::nI (upTo okB s i.toNat)::Y16 (Y2 (Y1 ([]))))) []else k .ret (.d (.str s)::Y1 (.d (.bool false)::nI (upTo okB s i.toNat)::Y16 (Y2 (Y1 ([]))))) []:=by
 intro i m h0 hi hm;obtain⟨j,hj⟩:∃j:Nat,(j:Int)=(s.length:Int)-i:=⟨((s.length:Int)-i).toNat,by omega⟩
 induction j generalizing i m with
 |zero=>
  obtain _|m:=m;omega;obtain rfl:i=s.length:=om
  simp-implicitDefEqProofs (maxSteps:=9^7) (disch:=try exact Dz) only[↓DN,↓kRet,UP,simprocAttr,Ah,mU,mX,Tryz.f142];simp only[Bu,Cd,if_true,aMo]
 |succ j ih=>
  obtain _|m:=m;omega;have hc:i<s.length:=om;have hk:i.toNat<s.length:=om;have e1:(i+1).toNat=i.toNat+1:=om
  cases hb:okB (s.getD i.toNat 0)with
  |true=>
   have hb':=hb;unfold okB fA at hb';simp only[decide_eq_true_eq]at hb';have n1:¬ltr (s.getD i.toNat 0)<0:=om;have n2:¬6<=ltr (s.getD i.toNat 0):=om
   simp-implicitDefEqProofs (maxSteps:=9^7) (disch:=try exact Dz) only[↓DN,↓kRet,UP,simprocAttr,hc,↓FL,n1,n2,↓ih,mU,mX,Tryz.f142];rw[e1,aRg hk hb,aPe hk hb]
  |false=>
   have hb':=hb;unfold okB fA at hb';simp only[decide_eq_false_iff_not]at hb';rw[aNo hk hb,aJr hk hb]
   by_cases n1:ltr (s.getD i.toNat 0)<0
   ·simp-implicitDefEqProofs (maxSteps:=9^7) (disch:=try exact Dz) only[↓DN,↓kAsg,↓kRet,UP,simprocAttr,hc,↓FL,n1,mU,mX,Tryz.f142];rw[Bl h0]
   ·have n2:6<=ltr (s.getD i.toNat 0):=om
    simp-implicitDefEqProofs (maxSteps:=9^7) (disch:=try exact Dz) only[↓DN,↓kAsg,↓kRet,UP,simprocAttr,hc,↓FL,n1,n2,mU,mX,Tryz.f142];rw[Bl h0]
theorem RQ(hn:2<=n)(s:List UInt8)(hL:2^60<=L):aA env L n 142 [.d (.str s)] []=some (.d (.bool (dR s)),[]):=by
 unfold dR
 by_cases hs:s.length<=50000
 ·have hs':¬(50000:Int)<s.length:=om
  cases ha:s.all okB with
  |true=>
   obtain _|n:=n;omega
   simp-implicitDefEqProofs (maxSteps:=9^7) (disch:=try exact Dz) only[↓DN,↓kAsg,↓kRet,UP,simprocAttr,hs',↓KQ,ha,DX,xL,Tryz.f142];simp[hs]
  |false=>
   obtain _|n:=n;omega
   simp-implicitDefEqProofs (maxSteps:=9^7) (disch:=try exact Dz) only[↓DN,↓kAsg,↓kRet,UP,simprocAttr,hs',↓KQ,ha,DX,xL,Tryz.f142]
   all_goals simp
 ·have hs':(50000:Int)<s.length:=om;obtain _|n:=n;omega
  simp-implicitDefEqProofs (maxSteps:=9^7) (disch:=try exact Dz) only[↓DN,↓kAsg,↓kRet,UP,simprocAttr,hs',DX,xL,Tryz.f142];simp[hs]
theorem u9:type_of% fun {L} s hL=>ks fun hn=> @RQ L _ hn s hL:=fun {L} s hL=>ks fun hn=> @RQ L _ hn s hL
def inB(a:Int)(b:UInt8):Bool:=okB b&&cN a (ltr b)
def dQ(a:Int)(s:List UInt8):Bool:=cP a&&decide (s.length<=50000)&&s.all (inB a)
theorem aRX{a:Int}{b:UInt8}:(decide (0<=(if fA (ltr b)then ltr b else -1))&&cN a (if fA (ltr b)then ltr b else -1))=inB a b:=by
 unfold inB okB
 cases h:fA (ltr b)with
 |true=>
  have:=zL.1 h;have h2:0<=ltr b:=om;simp[h2]
 |false=>simp
theorem HO(hn:1<=n){s:List UInt8}{a:Int}(hs:s.length<4294967296){k:KE R}:∀(i:Int) (m:Nat) (h0:0<=i) (hi:i<=s.length) (hm:(s.length:Int)-i<m),
  aT env (aA env L n) L 0 [] Bz52 (AO 0) (Z2 (U2 (Z1 (U8 (U2 (Z2 (U8 (U1 ([]))))))))) m (.d (.str s)::nI a::Y2 (.d (.bool false)::Y8 (Y2 (nI (s.length)::nI i::Y8 (Y1 ([])))))) [] k
  =if(s.drop i.toNat).all (inB a)then k (.exit 0) (.d (.str s)::nI a::Y2 (.d (.bool false)::Y8 (Y2 (nI (s.length)::nI (upTo (inB a) s i.toNat)::Y8 (Y1 ([])))))) []else k .ret (.d (.str s)::nI a::Y2 (.d (.bool false)::Y8 (Y2 (nI (s.length)::nI (upTo (inB a) s i.toNat)::Y8 (Y1 ([])))))) []:=by
 intro i m h0 hi hm;obtain⟨j,hj⟩:∃j:Nat,(j:Int)=(s.length:Int)-i:=⟨((s.length:Int)-i).toNat,by omega⟩
 induction j generalizing i m with
 |zero=>
  obtain _|m:=m;omega;obtain rfl:i=s.length:=om
  simp-implicitDefEqProofs (maxSteps:=9^7) (disch:=try exact Dz) only[↓DN,↓kRet,UP,simprocAttr,Ah,rV,pS,Tryz.f102];simp only[Bu,Cd,if_true,aMo]
 |succ j ih=>
  obtain _|m:=m;omega;have hc:i<s.length:=om;have hk:i.toNat<s.length:=om;have e1:(i+1).toNat=i.toNat+1:=om
  cases hb:inB a (s.getD i.toNat 0)with
  |true=>
   simp-implicitDefEqProofs (maxSteps:=9^7) (disch:=try exact Dz) only[↓DN,↓kRet,UP,simprocAttr,hc,↓G0,↓U7,aRX,hb,↓ih,rV,pS,Tryz.f102];rw[e1,aRg hk hb,aPe hk hb]
  |false=>
   rw[aNo hk hb,aJr hk hb]
   simp-implicitDefEqProofs (maxSteps:=9^7) (disch:=try exact Dz) only[↓DN,↓kAsg,↓kRet,UP,simprocAttr,hc,↓G0,↓U7,aRX,hb,rV,pS,Tryz.f102];rw[Bl h0]
theorem N8(hn:2<=n)(s:List UInt8)(a:Int)(hL:2^60<=L):aA env L n 102 [.d (.str s),nI a] []=some (.d (.bool (dQ a s)),[]):=by
 unfold dQ
 cases hal:cP a with
 |false=>
  obtain _|n:=n;omega
  simp-implicitDefEqProofs (maxSteps:=9^7) (disch:=try exact Dz) only[↓DN,↓kAsg,↓kRet,UP,simprocAttr,↓dW,hal,sU,oH,Tryz.f102]
  all_goals rfl
 |true=>
  by_cases hs:s.length<=50000
  ·have hs':¬(50000:Int)<s.length:=om
   cases ha:s.all (inB a)with
   |true=>
    obtain _|n:=n;omega
    simp-implicitDefEqProofs (maxSteps:=9^7) (disch:=try exact Dz) only[↓DN,↓kAsg,↓kRet,UP,simprocAttr,↓dW,hal,hs',↓HO,ha,sU,oH,Tryz.f102];simp[hs]
   |false=>
    obtain _|n:=n;omega
    simp-implicitDefEqProofs (maxSteps:=9^7) (disch:=try exact Dz) only[↓DN,↓kAsg,↓kRet,UP,simprocAttr,↓dW,hal,hs',↓HO,ha,sU,oH,Tryz.f102]
    all_goals simp
  ·have hs':(50000:Int)<s.length:=om;obtain _|n:=n;omega
   simp-implicitDefEqProofs (maxSteps:=9^7) (disch:=try exact Dz) only[↓DN,↓kAsg,↓kRet,UP,simprocAttr,↓dW,hal,hs',sU,oH,Tryz.f102];simp[hs]
theorem O5:type_of% fun {L} s a hL=>ks fun hn=> @N8 L _ hn s a hL:=fun {L} s a hL=>ks fun hn=> @N8 L _ hn s a hL
theorem aW9{α:Type}{p:α->Bool}{l:List α}{d:α}(ha:l.all p=true){i:Nat}(h:i<l.length):p (l.getD i d)=true:=by
 rw[Aa,Ad h];exact Bk.1 ha _ (At h)
end
theorem b7{R:Type}{call:aZ}{h:H}{f:FuncId}{args:List A}{c:List UInt8}{p q:Int}{r:A}{k:KA R}(hm:(env.hint f).mode=0)(ha:idsL args=[])(hr:idsA r=[])(he:call f (.ptr 0 0 0::args) [rdO c p]=some (r,[rdO c q])):
  aX env call (rdO c p::h) f (.ptr 0 0 0::args) k=k r (rdO c q::h):=by
 have hid:idsL (A.ptr 0 0 0::args)=[0]:=by simp[idsL,idsA,ha]
 have hre:aF aI (rdO c p::h) [0] []=[0]:=rfl;have hpk:pack (rdO c p::h) [0]=[rdO c p]:=rfl
 have hma:aG (aJ [0]) (A.ptr 0 0 0::args)=A.ptr 0 0 0::args:=by
  simp only[aG,fU _ ha];rfl
 unfold aX;rw[hid,hre,hpk,hma]
 have hc:bY call env.hint [rdO c p] f (.ptr 0 0 0::args)=some (r,[rdO c q]):=by
  unfold bY;rw[hm];exact he
 rw[hc];have hcl:closed (rdO c p::h) [0] [0]=true:=rfl;simp only[Ae,Ac,Ab,hcl,and_self,if_true,tA r hr]
 congr 1
 simp[bJ,mapO,aG,mapA]
theorem aGM:(env.hint 30).mode=0:=kr
theorem aQr{a b:Int}(ha:0<=a)(ha2:a<2^62)(hb:0<=b)(hb2:b<2^62):0<=iXor .i64 a b/\iXor .i64 a b<2^62:=by
 obtain⟨m,rfl⟩:=Dj ha;obtain⟨n,rfl⟩:=Dj hb;have hm:m<2^62:=om;have hn:n<2^62:=om
 have hx:(BitVec.ofInt 64 (m:Int)^^^BitVec.ofInt 64 (n:Int)).toNat=m^^^n:=by
  rw[BitVec.toNat_xor]
  congr 1<;>(simp only[BitVec.ofInt_natCast,BitVec.toNat_ofNat];omega)
 have hlt:m^^^n<2^62:=Nat.xor_lt_two_pow hm hn;unfold iXor;have:(BitVec.ofInt IntKind.i64.bits (m:Int)^^^BitVec.ofInt IntKind.i64.bits (n:Int)).toNat=m^^^n:=hx;rw[this,BL om om];omega
theorem eC{c:List UInt8}(hc:c.length<=2000)(p b:Int)(hp:0<=p)(hp2:p<=1000000000):∃v:Int,0<=v/\(1<=b->v<b)/\(b<1->v=0)/\(Dw 1 30 [nI b] (nI v) c p (p+1)):=by
 by_cases h1:b<1
 ·refine⟨0,by omega,by omega,by omega,fun R L n hq k hn hL=>b7 aGM rfl rfl ?_⟩;obtain _|n:=n;omega
  simp-implicitDefEqProofs (maxSteps:=9^7) (disch:=try exact Dz) only[↓DN,↓kAsg,↓kRet,UP,simprocAttr,h1,sE,pG,Tryz.f30]
 ·by_cases h2:c.length=0
  ·refine⟨0,by omega,by omega,by omega,fun R L n hq k hn hL=>b7 aGM rfl rfl ?_⟩;have h2':(c.length:Int)=0:=om;obtain _|n:=n;omega
   simp-implicitDefEqProofs (maxSteps:=9^7) (disch:=try exact Dz) only[↓DN,↓kAsg,↓kRet,UP,simprocAttr,h1,h2',sE,pG,Tryz.f30]
  ·have h2':¬(c.length:Int)=0:=om
   by_cases h3:p<c.length
   ·have hb:b≠0:=om;have t0:0<=((c.getD p.toNat 0).toNat:Int).tmod b:=Int.tmod_nonneg b om;have t1:((c.getD p.toNat 0).toNat:Int).tmod b<b:=Int.tmod_lt_of_pos _ om;refine⟨((c.getD p.toNat 0).toNat:Int).tmod b,t0,fun _=>t1,by omega,fun R L n hq k hn hL=>b7 aGM rfl rfl ?_⟩;have e1:p+1-1=p:=om;obtain _|n:=n;omega
    simp-implicitDefEqProofs (maxSteps:=9^7) (disch:=try exact Dz) only[↓DN,↓kAsg,↓kRet,UP,simprocAttr,h1,h2',e1,h3,sE,pG,Tryz.f30]
   ·have e1:p+1-1=p:=om;have hl1:(0:Int)<c.length:=om;have q1:0<=p.tmod c.length:=Int.tmod_nonneg _ hp;have q2:p.tmod c.length<c.length:=Int.tmod_lt_of_pos _ hl1;have q3:0<=(p*7+3).tmod c.length:=Int.tmod_nonneg _ om;have q4:(p*7+3).tmod c.length<c.length:=Int.tmod_lt_of_pos _ hl1;have q5:0<=p.tdiv c.length:=Int.tdiv_nonneg hp om;have q6:p.tdiv c.length<=p:=Int.tdiv_le_self _ hp;have b1:=toNat_lt (c.getD (p.tmod c.length).toNat 0);have b2:=toNat_lt (c.getD ((p*7+3).tmod c.length).toNat 0);have r1:(p.tmod c.length).toNat<c.length:=om;have r2:((p*7+3).tmod c.length).toNat<c.length:=om;obtain⟨x,hx⟩:∃x:Int,x=((c.getD (p.tmod c.length).toNat 0).toNat:Int)*131+((c.getD ((p*7+3).tmod c.length).toNat 0).toNat:Int)*1117+p*29+p.tdiv c.length*53:=⟨_,rfl⟩
    have x0:0<=x:=om;have x1:x<2^62:=om;have y0:0<=x.tdiv 64:=Int.tdiv_nonneg x0 om;have y1:x.tdiv 64<2^62:=by have:=Int.tdiv_le_self 64 x0;omega
    have z:=aQr x0 x1 y0 y1;have hb:b≠0:=om;have t0:0<=(iXor .i64 x (x.tdiv 64)).tmod b:=Int.tmod_nonneg b z.1;have t1:(iXor .i64 x (x.tdiv 64)).tmod b<b:=Int.tmod_lt_of_pos _ om;refine⟨(iXor .i64 x (x.tdiv 64)).tmod b,t0,fun _=>t1,by omega,fun R L n hq k hn hL=>b7 aGM rfl rfl ?_⟩;clear b1 b2 z t0 t1;have b1:=toNat_lt (c.getD (p.tmod c.length).toNat 0);have b2:=toNat_lt (c.getD ((p*7+3).tmod c.length).toNat 0);subst hx;obtain _|n:=n;omega
    simp-implicitDefEqProofs (maxSteps:=9^7) (disch:=try exact Dz) only[↓DN,↓kAsg,↓kRet,UP,simprocAttr,h1,h2',e1,h3,sE,pG,Tryz.f30]
theorem aXK:(env.hint 65).mode=0:=kr
theorem m_of:(env.hint 62).mode=0:=kr
theorem aSI{R:Type}{call:aZ}{hq:H}{f:FuncId}{c:List UInt8}{p q:Int}{r:A}{k:KA R}{cs:List D}{e g n id:Nat}(hi:hq[id]? =some (.arr cs e g))(hm:(env.hint f).mode=0)(hr:idsA r=[])(he:call f [.ptr 0 0 0,.sl 1 g 0 n] [rdO c p,.arr cs e g]=some (r,[rdO c q,.arr cs e g])):
  aX env call (rdO c p::hq) f [.ptr 0 0 0,.sl (id+1) g 0 n] k=k r (rdO c q::hq):=by
 have hlk:(rdO c p::hq)[id+1]? =some (.arr cs e g):=by rw[Ay];exact hi
 have hre:aF aI (rdO c p::hq) [0,id+1] []=[0,id+1]:=by
  have e1:aF aI (rdO c p::hq) [0,id+1] []=aF (aI-1) (rdO c p::hq) [id+1] [0]:=rfl
  have e2:aF (aI-1) (rdO c p::hq) [id+1] [0]=if [0].contains (id+1)=true then aF (aI-2) (rdO c p::hq) [] [0]else match(rdO c p::hq)[id+1]? with
   |some (.box cs)=>aF (aI-2) (rdO c p::hq) ([]++idsL cs) ([0]++[id+1])
   |some (.vec cs _ _)=>aF (aI-2) (rdO c p::hq) ([]++idsL cs) ([0]++[id+1])
   |some .void=>aF (aI-2) (rdO c p::hq) [] [0]
   |some _=>aF (aI-2) (rdO c p::hq) [] ([0]++[id+1])
   |none=>aF (aI-2) (rdO c p::hq) [] [0]:=rfl
  have e3:[0].contains (id+1)=false:=smp;rw[e1,e2,e3,hlk];rfl
 have hpk:pack (rdO c p::hq) [0,id+1]=[rdO c p,.arr cs e g]:=by
  simp only[pack,Aj,As,Aa,hlk]<;>rfl
 unfold aX;have hid:idsL [A.ptr 0 0 0,A.sl (id+1) g 0 n]=[0,id+1]:=rfl;rw[hid,hre,hpk]
 have hma:aG (aJ [0,id+1]) [A.ptr 0 0 0,A.sl (id+1) g 0 n]=[A.ptr 0 0 0,A.sl 1 g 0 n]:=by
  simp[aG,mapA,aJ]
 rw[hma]
 have hc:bY call env.hint [rdO c p,.arr cs e g] f [.ptr 0 0 0,.sl 1 g 0 n]=some (r,[rdO c q,.arr cs e g]):=by
  unfold bY;rw[hm];exact he
 rw[hc]
 have hcl:closed (rdO c p::hq) [0,id+1] [0,id+1]=true:=by
  simp only[closed,Bx,Cd,hlk,Cs];simp[idsL,idsA]
 simp only[Ae,Ac,Ab,hcl,and_self,if_true,tA r hr]
 congr 1
 simp only[bJ,mapO,aG,mapA,As,Ai,Cj,Bt]
 congr 1
 exact aWm hi
theorem aDu{α:Type}{l:List α}{k:Nat}{d:α}(h:k<l.length):l.getD k d∈l:=by
 rw[Aa,Ad h];exact At h
theorem aW5{c:List UInt8}(hc:c.length<=2000)(l:List Int)(g:Nat)(hl:0<l.length)(hl2:l.length<1000)(p:Int)(hp:0<=p)(hp2:p<=1000000000):∃v:Int,v∈l/\∀(L n:Nat),2<=n->2^60<=L->aA env L n 65 [.ptr 0 0 0,.sl 1 g 0 l.length] [rdO c p,.arr (ints l) 1 g]=some (nI v,[rdO c (p+1),.arr (ints l) 1 g]):=by
 obtain⟨v,v0,v1,_,kd⟩:=eC hc p l.length hp hp2;have v1:=v1 om;have hk:v.toNat<l.length:=om;refine⟨l.getD v.toNat 0,aDu hk,fun L n hn hL=> ?_⟩;obtain _|n:=n;omega
 simp-implicitDefEqProofs (maxSteps:=9^7) (disch:=try exact Dz) only[↓DN,↓kAsg,↓kRet,UP,simprocAttr,↓kd,aHJ,VU,Tryz.f65]
theorem AP{c:List UInt8}(hc:c.length<=2000)(l:List Int)(hl:0<l.length)(hl2:l.length<1000)(p:Int)(hp:0<=p)(hp2:p<=1000000000):∃v:Int,v∈l/\(∀(R:Type) (L n id:Nat) (hq:H) (k:KA R),2<=n->2^60<=L->hq[id]? =some (.arr (ints l) 1 0)->aX env (aA env L n) (rdO c p::hq) 65 [.ptr 0 0 0,.sl (id+1) 0 0 l.length] k=k (nI v) (rdO c (p+1)::hq)):=by
 obtain⟨v,hv,he⟩:=aW5 hc l 0 hl hl2 p hp hp2;exact⟨v,hv,fun R L n id hq k hn hL hi=>aSI hi aXK rfl (he L n hn hL)⟩
def aM(l:List (List UInt8)):List D:=l.map .str
theorem eA{l:List (List UInt8)}:(aM l).length=l.length:=by simp[aM]
theorem UL{l:List (List UInt8)}{k:Nat}(h:k<l.length):(((aM l).drop k).map A.d).head? =some (.d (.str (l.getD k []))):=by
 rw[List.head?_map,Di,aM,Bh,Aa,Ad h];rfl
theorem aXm{c:List UInt8}(hc:c.length<=2000)(l:List (List UInt8))(hl:0<l.length)(hl2:l.length<1000)(p:Int)(hp:0<=p)(hp2:p<=1000000000):∃v:List UInt8,v∈l/\(Dw 2 62 [.d (.ivs l.length (aM l))] (.d (.str v)) c p (p+1)):=by
 obtain⟨v,v0,v1,_,kd⟩:=eC hc p l.length hp hp2;have v1:=v1 om;have hk:v.toNat<l.length:=om;refine⟨l.getD v.toNat [],aDu hk,fun R L n hq k hn hL=>b7 m_of rfl rfl ?_⟩;obtain _|n:=n;omega
 simp-implicitDefEqProofs (maxSteps:=9^7) (disch:=try exact Dz) only[↓DN,↓kAsg,↓kRet,UP,simprocAttr,↓kd,eA,UL,aKt,YI,Tryz.f62]
theorem aDs{R:Type}{L n:Nat}(hn:1<=n){a:Int}{k:KE R}:∀(i:Int) (m:Nat) (l:List Int) (len:Nat) (h0:0<=i) (hi:i<=6) (hm:6-i<m) (hl:len=l.length) (hlen:(l.length:Int)<=i),
  aT env (aA env L n) L 0 [] Bz59 (C5 0) (Z1 (U1 (Z2 (Z1 (U8 (U4 (U1 ([])))))))) m (nI a::Y1 (.d .nils::.sl 0 0 0 len::nI i::Y8 (Y4 (Y1 ([]))))) [.arr (ints l) 1 0] k
  =k (.exit 0) (nI a::Y1 (.d .nils::.sl 0 0 0 (len+((sM (6-i).toNat).filter (cN a)).length)::nI 6::Y8 (Y4 (Y1 ([]))))) [.arr (ints (l++(sM (6-i).toNat).filter (cN a))) 1 0]:=by
 intro i m l len h0 hi hm hl hlen;obtain⟨j,hj⟩:∃j:Nat,(j:Int)=(6:Int)-i:=⟨((6:Int)-i).toNat,by omega⟩
 induction j generalizing i m l len with
 |zero=>
  obtain _|m:=m;omega;obtain rfl:i=6:=om
  simp-implicitDefEqProofs (maxSteps:=9^7) (disch:=try exact Dz) only[↓DN,↓kRet,UP,simprocAttr,tV,sF,Tryz.f80];simp only[sM,List.filter_nil,Ai,Ac,By]
 |succ j ih=>
  obtain _|m:=m;omega;have hc:i<6:=om;have e1:(6-i).toNat=j+1:=om;have e2:(6-(i+1)).toNat=j:=om;have hr:sM (j+1)=i::sM j:=by simp only[sM];congr 1;omega
  rw[e1,hr,List.filter_cons]
  cases hb:cN a i with
  |true=>
   simp-implicitDefEqProofs (maxSteps:=9^7) (disch:=try exact Dz) only[↓DN,↓kRet,UP,simprocAttr,↓uX,↓ih,hc,hb,e2,tV,sF,Tryz.f80];simp only[Ao,Ax,Aq,Nat.add_assoc,De 1]
  |false=>
   simp-implicitDefEqProofs (maxSteps:=9^7) (disch:=try exact Dz) only[↓DN,↓kRet,UP,simprocAttr,↓uX,↓ih,hc,hb,e2,tV,sF,Tryz.f80]
theorem aW1:sM (6-(0:Int)).toNat=[0,1,2,3,4,5]:=rfl
theorem QY{L n:Nat}(hn:2<=n)(a:Int)(hL:2^60<=L):aA env L n 80 [nI a] []=some (.d (.ivs (aB a).length (ints (aB a))),[]):=by
 unfold aB;rw[<-aW1];obtain _|n:=n;omega
 simp-implicitDefEqProofs (maxSteps:=9^7) (disch:=try exact Dz) only[↓DN,↓kAsg,↓kRet,UP,simprocAttr,aTQ,↓aDs,aHR,VQ,Tryz.f80]
theorem gJ:type_of% fun {L} a hL=>ks fun hn=> @QY L _ hn a hL:=fun {L} a hL=>ks fun hn=> @QY L _ hn a hL
theorem aCc{L n:Nat}(hn:1<=n)(l:Int)(h0:0<=l)(h:l<=5):aA env L n 85 [nI l] []=some (.d (.str [bU l]),[]):=by
 have e:IntKind.u8.wrap (97+l)=((bU l).toNat:Int):=aI7 h0 h;have e2:[D.int .u8 ((bU l).toNat:Int)]=bM [bU l]:=rfl;obtain _|n:=n;omega
 simp-implicitDefEqProofs (maxSteps:=9^7) (disch:=try exact Dz) only[↓DN,↓kAsg,↓kRet,UP,simprocAttr,e,e2,↓QQ,aOA,aF8,Tryz.f85]
theorem QG:type_of% fun {L} l h0 h=>ks fun hn=> @aCc L _ hn l h0 h:=fun {L} l h0 h=>ks fun hn=> @aCc L _ hn l h0 h
theorem ZP{c:List UInt8}(hc:c.length<=2000){al st i9:Int}{w:Nat}(hw:w<=6){d:List (List Int)}(hdl:d.length<=4294967296){cs:List D}{z:Nat}:∀(j i:Nat) (p:Int) (o:List Int) (hi:i+j=w) (ho:o.length=i) (hp:0<=p) (hp2:p+j<=1000000000),
  ∃(r:List Int) (q:Int),r.length=w/\q=p+j/\∀(R:Type) (L n m:Nat) (k:KE R),2<=n->2^60<=L->j<m->
  aT env (aA env L n) L 1 (W32 (W4 (W1 [1002]))) Bz7 (kA 1) Bz40 m (.ptr 0 0 0::Y1 (nI st::Y2 (Y1 (.ptr 1 0 0::.ptr 2 0 0::nI w::nI i9::.sl 3 0 0 i::nI i::Y32 (Y4 (Y1 ([]))))))) (rdO c p::.box [nI 0,.sl 4 0 0 0,.sl 5 0 0 0]::.box [nI al,.sl 6 0 0 d.length,.sl 7 0 0 z]::.arr (ints o) 1 0::.arr [] 0 0::.arr [] 0 0::.vec (aC 8 d++aH 0) 1 0::.arr cs 1 0::aK d) k
  =k (.exit 2) (.ptr 0 0 0::Y1 (nI st::Y2 (Y1 (.ptr 1 0 0::.ptr 2 0 0::nI w::nI i9::.sl 3 0 0 w::nI w::Y32 (Y4 (Y1 ([]))))))) (rdO c q::.box [nI 0,.sl 4 0 0 0,.sl 5 0 0 0]::.box [nI al,.sl 6 0 0 d.length,.sl 7 0 0 z]::.arr (ints r) 1 0::.arr [] 0 0::.arr [] 0 0::.vec (aC 8 d++aH 0) 1 0::.arr cs 1 0::aK d):=by
 intro j
 induction j with
 |zero=>
  intro i p o hi ho hp hp2;obtain rfl:i=w:=om;refine⟨o,p,ho,by omega,fun R L n m k hn hL hm=> ?_⟩;obtain _|m:=m;omega;subst ho
  simp-implicitDefEqProofs (maxSteps:=9^7) (disch:=try exact Dz) only[↓DN,↓kRet,UP,simprocAttr,Ah,↓aUA,nP,oG,Tryz.f59]
 |succ j ih=>
  intro i p o hi ho hp hp2;obtain⟨v,v0,v1,v2,kd⟩:=eC hc p st hp om;obtain⟨r,q,g1,g2,kd2⟩:=ih (i+1) (p+1) (o++[v]) om (by simp;omega) om om;refine⟨r,q,g1,by omega,fun R L n m k hn hL hm=> ?_⟩;obtain _|m:=m;omega;have kd2':=kd2 R L n m k hn hL om;rw[cs1 i]at kd2';have hc1:(i:Int)<w:=om;subst ho;clear ih kd2
  simp-implicitDefEqProofs (maxSteps:=9^7) (disch:=try exact Dz) only[↓DN,↓kRet,UP,simprocAttr,hc1,↓kd,↓kd2',cG,wK,↓aVG,nP,oG,Tryz.f59]
theorem XA{c:List UInt8}(hc:c.length<=2000){al st i9:Int}{w:Nat}(hw:w<=6){cs:List D}{z:Nat}:∀(j i:Nat) (p:Int) (o:List Int) (hi:i+j=w) (ho:o.length=i) (hp:0<=p) (hp2:p+j<=1000000000),
  ∃(r:List Int) (q:Int),r.length=w/\q=p+j/\∀(R:Type) (L n m:Nat) (k:KE R),2<=n->2^60<=L->j<m->
  aT env (aA env L n) L 1 (W32 (W4 (W1 [1002]))) Bz7 (kA 1) Bz40 m (.ptr 0 0 0::Y1 (nI st::Y2 (Y1 (.ptr 1 0 0::.ptr 2 0 0::nI w::nI i9::.sl 3 0 0 i::nI i::Y32 (Y4 (Y1 ([]))))))) (rdO c p::.box [nI 0,.sl 4 0 0 0,.sl 5 0 0 0]::.box [nI al,.sl 6 0 0 0,.sl 7 0 0 z]::.arr (ints o) 1 0::.arr [] 0 0::.arr [] 0 0::.arr [] 0 0::.arr cs 0 0::[]) k
  =k (.exit 2) (.ptr 0 0 0::Y1 (nI st::Y2 (Y1 (.ptr 1 0 0::.ptr 2 0 0::nI w::nI i9::.sl 3 0 0 w::nI w::Y32 (Y4 (Y1 ([]))))))) (rdO c q::.box [nI 0,.sl 4 0 0 0,.sl 5 0 0 0]::.box [nI al,.sl 6 0 0 0,.sl 7 0 0 z]::.arr (ints r) 1 0::.arr [] 0 0::.arr [] 0 0::.arr [] 0 0::.arr cs 0 0::[]):=by
 intro j
 induction j with
 |zero=>
  intro i p o hi ho hp hp2;obtain rfl:i=w:=om;refine⟨o,p,ho,by omega,fun R L n m k hn hL hm=> ?_⟩;obtain _|m:=m;omega;subst ho
  simp-implicitDefEqProofs (maxSteps:=9^7) (disch:=try exact Dz) only[↓DN,↓kRet,UP,simprocAttr,Ah,nP,oG,Tryz.f59]
 |succ j ih=>
  intro i p o hi ho hp hp2;obtain⟨v,v0,v1,v2,kd⟩:=eC hc p st hp om;obtain⟨r,q,g1,g2,kd2⟩:=ih (i+1) (p+1) (o++[v]) om (by simp;omega) om om;refine⟨r,q,g1,by omega,fun R L n m k hn hL hm=> ?_⟩;obtain _|m:=m;omega;have kd2':=kd2 R L n m k hn hL om;rw[cs1 i]at kd2';have hc1:(i:Int)<w:=om;subst ho;clear ih kd2
  simp-implicitDefEqProofs (maxSteps:=9^7) (disch:=try exact Dz) only[↓DN,↓kRet,UP,simprocAttr,hc1,↓kd,↓kd2',nP,oG,Tryz.f59]
theorem aVA{m:List Bool}{s:List A}{y1 y2 x0 x1:D}{k z rl:Nat}{r:List Int}{cs:List D}{d:List (List Int)}{p:H}(hr:rl=r.length)(hl:d.length<=4294967296):gc 1 m s (.box [.d y1,.d y2]::.box [.d x0,.sl 4 0 0 0,.sl 5 0 0 0]::.box [.d x1,.sl 6 1 0 k,.sl 7 1 0 z]::.arr (ints r) 1 0::.arr [] 0 0::.arr [] 0 0::.vec (aC 8 d++[.sl 3 0 0 rl]) 1 1::.arr cs 1 1::(aK d++p))=match box (tidy m s)with
  |.mk s1=>if idsL s1=[0,1,2]then(s1,.box [.d y1,.d y2]::.box [.d x0,.sl 3 0 0 0,.sl 4 0 0 0]::.box [.d x1,.sl 5 0 0 k,.sl 6 0 0 z]::.arr [] 0 0::.arr [] 0 0::.vec (aC 7 (d++[r])++aH 0) 1 0::.arr cs 1 0::aK (d++[r]))else gcO 1 m s (.box [.d y1,.d y2]::.box [.d x0,.sl 4 0 0 0,.sl 5 0 0 0]::.box [.d x1,.sl 6 1 0 k,.sl 7 1 0 z]::.arr (ints r) 1 0::.arr [] 0 0::.arr [] 0 0::.vec (aC 8 d++[.sl 3 0 0 rl]) 1 1::.arr cs 1 1::(aK d++p))
  |.no=>([],[]):=by
 have hn:aH 0=[]:=rfl;subst hr;rw[aWi hl,<-P6,IQ,hn,Ai,De 7];simp only[box]
 split
 ·rename_i hid
  rw[qG _ (by rw[hid];intro i hi;simp at hi;rcases hi with rfl|rfl|rfl<;>rfl)]
 ·rfl
theorem xD{l:List Bool}{b:Bool}:aD l++[.bool b]=aD (l++[b]):=by simp[aD]
theorem aAD{c:List UInt8}(hc:c.length<=2000){al st:Int}{w s:Nat}(hw:w<=6)(hst:st=s)(hs:s<=100):∀(j i:Nat) (p:Int) (d:List (List Int)) (bl:List Bool) (hi:i+j=s) (hd:d.length=i) (hbl:bl.length=i) (hrw:∀r∈d,r.length=w) (hp:0<=p) (hp2:p+7*j<=1000000000),
  ∃(d2:List (List Int)) (bl2:List Bool) (q:Int),d2.length=s/\bl2.length=s/\(∀r∈d2,r.length=w)/\p<=q/\q<=p+7*j/\∀(R:Type) (L n m:Nat) (k:KE R),2<=n->2^60<=L->j<m->
  aT env (aA env L n) L 1 (W32 (W4 (W1 [1002]))) Bz7 (kA 0) Bz41 m (.ptr 0 0 0::Y1 (nI st::Y2 (Y1 (.ptr 1 0 0::.ptr 2 0 0::nI w::nI i::Y32 (Y4 (Y2 (Y1 ([])))))))) (rdO c p::.box [nI 0,.sl 3 0 0 0,.sl 4 0 0 0]::.box [nI al,.sl 5 0 0 (List.length d),.sl 6 0 0 (List.length bl)]::.arr [] 0 0::.arr [] 0 0::.vec (aC 7 d++aH 0) 1 0::.arr (aD bl) 1 0::aK d) k
  =k (.exit 0) (.ptr 0 0 0::Y1 (nI st::Y2 (Y1 (.ptr 1 0 0::.ptr 2 0 0::nI w::nI s::Y32 (Y4 (Y2 (Y1 ([])))))))) (rdO c q::.box [nI 0,.sl 3 0 0 0,.sl 4 0 0 0]::.box [nI al,.sl 5 0 0 (List.length d2),.sl 6 0 0 (List.length bl2)]::.arr [] 0 0::.arr [] 0 0::.vec (aC 7 d2++aH 0) 1 0::.arr (aD bl2) 1 0::aK d2):=by
 intro j
 induction j with
 |zero=>
  intro i p d bl hi hd hbl hrw hp hp2;obtain rfl:i=s:=om;refine⟨d,bl,p,hd,hbl,hrw,by omega,by omega,fun R L n m k hn hL hm=> ?_⟩;obtain _|m:=m;omega;have hdl:d.length<=4294967296:=om;subst hst
  simp-implicitDefEqProofs (maxSteps:=9^7) (disch:=try exact Dz) only[↓DN,↓kRet,UP,simprocAttr,Ah,↓aWd,wA,uO,Tryz.f59]
 |succ j ih=>
  intro i p d bl hi hd hbl hrw hp hp2;have hdl:d.length<=4294967296:=om;obtain⟨r,q,g1,g2,kd1⟩:=ZP hc (al:=al) (st:=st) (i9:=i) hw hdl (cs:=aD bl) (z:=bl.length) w 0 p [] om rfl hp om;obtain⟨v,v0,v1,v2,kd2⟩:=eC hc q 3 om om
  obtain⟨d2,bl2,q2,e1,e2,e3,e4,e5,kd3⟩:=ih (i+1) (q+1) (d++[r]) (bl++[decide (0<v)]) om (by simp;omega) (by simp;omega) (by
   intro x hx
   rcases Ak.1 hx with hx|hx
   ·exact hrw x hx
   ·simp at hx;subst hx;exact g1) om om
  refine⟨d2,bl2,q2,e1,e2,e3,by omega,by omega,fun R L n m k hn hL hm=> ?_⟩;obtain _|m:=m;omega;have kd3':=kd3 R L n m k hn hL om;have loop_c:=fun {R:Type} {n:Nat} {k:KE R} (hn:2<=n)=>kd1 R L n L k hn hL om;rw[cs1 i]at kd3';simp only[Ap,kG,Af,Ae,Ac,Ag]at loop_c kd3';have hc1:(i:Int)<st:=om;have g1':w=r.length:=g1.symm;have ht:(aC 8 d++aH 0).take d.length=aC 8 d:=IM rfl;have hlv:d.length<=(aC 8 d++aH 0).length:=by rw[Af,gA];omega
  obtain⟨G2,hG2⟩:∃G:H,G=(rdO c (q+1)::.box [nI 0,.sl 4 0 0 0,.sl 5 0 0 0]::.box [nI al,.sl 6 1 0 (d.length+1),.sl 7 0 0 bl.length]::.arr (ints r) 1 0::.arr [] 0 0::.arr [] 0 0::.vec (aC 8 d++[.sl 3 0 0 w]) 1 1::.arr (aD (bl++[decide (0<v)])) 1 1::(aK d++.vec [.sl 3 0 0 w] 1 0::.arr [.bool (decide (0<v))] 1 0::[])):=⟨_,rfl⟩
  have k2:G2[2]? =some (.box [nI al,.sl 6 1 0 (d.length+1),.sl 7 0 0 bl.length]):=by rw[hG2];rfl
  have k3:G2[3]? =some (.arr (ints r) 1 0):=by rw[hG2];rfl
  have k6:G2[6]? =some (.vec (aC 8 d++[.sl 3 0 0 w]) 1 1):=by rw[hG2];rfl
  have k7:G2[7]? =some (.arr (aD (bl++[decide (0<v)])) 1 1):=by rw[hG2];rfl
  have ok3:Okay G2 3:=.mk _ _ k3 smp (by rw[bQ k3];simp);have ok7:Okay G2 7:=.mk _ _ k7 smp (by rw[bQ k7];simp)
  have ok6:Okay G2 6:=.mk _ _ k6 smp (by
   intro y hy;have:kids G2 6=List.range' 8 d.length++[3]:=by simp[kids,k6,bN,bZ,idsL,idsA]
   rw[this,Ak,Cy]at hy
   rcases hy with hy|hy
   ·obtain⟨z,rfl⟩:∃z,y=8+z:=⟨y-8,by omega⟩
    have hz:z<d.length:=om
    have hr:G2[8+z]? =some (.arr (ints d[z]) 1 0):=by
     rw[hG2,show 8+z=z+1+1+1+1+1+1+1+1 by omega];simp only[Ay];exact I9 (Ad hz)
    exact .mk _ _ hr smp (by rw[bQ hr];simp)
   ·simp at hy;subst hy;exact ok3)
  have ok2:Okay G2 2:=.mk _ _ k2 smp (by
   intro y hy;have:kids G2 2=[6,7]:=by simp[kids,k2,idsL,idsA]
   rw[this]at hy;simp at hy
   rcases hy with rfl|rfl
   ·exact ok6
   ·exact ok7)
  have wG2:2+wgt G2<=1099511627776:=by
   have h1:=rN (aK d) [.vec [.sl 3 0 0 w] 1 0,.arr [.bool (decide (0<v))] 1 0];rw[J7]at h1;rw[hG2];simp only[wgt,idsL,idsA,bN,bZ,Af,Ee,Ae,Ac]at h1|-;omega
  have st_sto:∀ {call:aZ} {thaw:List Nat} {dst:Option Tmp} {x y:Operand},memD env call thaw dst (.store 24 x y) G2 [.ptr 2 0 2,.sl 7 1 0 (bl.length+1)]=some (.d .undef,G2.set 2 (.box (bK [nI al,.sl 6 1 0 (d.length+1),.sl 7 0 0 bl.length] 2 [.sl 7 1 0 (bl.length+1)])),{ ids:=aF aI G2 [2,7] [],ro:=false,wr:=aF aI G2 [2,7] []}):=by
   intro call thaw dst x y;exact xG kr kr k2 smp ok2 ok7 wG2
  obtain⟨o2,ho2⟩:∃o,o=aF aI G2 [2,7] []:=⟨_,rfl⟩
  rw[<-ho2]at st_sto;rw[hG2]at st_sto;simp only[Bt,Cj,bK,List.take_succ_cons,List.take_zero,Ax,Aq,Ae,Ac,Ds,List.drop_nil,Nat.reduceAdd]at st_sto;clear hG2 k2 k3 k6 k7 ok2 ok3 ok6 ok7 wG2 ho2 ih kd1 kd3;subst hd;generalize hbv:decide (0<v)=b at *
  simp-implicitDefEqProofs (maxSteps:=9^7) (disch:=try exact Dz) only[↓DN,↓kAsg,↓kRet,UP,simprocAttr,LA,hc1,hbv,↓loop_c,↓kd2,cG,gA,aR9,Ab,wK,L8,aKQ,aL2,Bj,ht,xD,Ao,↓aVD,aMQ,X0,Y7,aAO,WV,↓st_sto,↓aVA,↓kd3',wA,uO,Tryz.f59]
theorem UI{c:List UInt8}(hc:c.length<=2000){al st:Int}{w s:Nat}(hw:w<=6)(hst:st=s)(hs:s<=100)(h1:1<=s)(p:Int)(hp:0<=p)(hp2:p+7*s<=1000000000):
  ∃(d2:List (List Int)) (bl2:List Bool) (q:Int),d2.length=s/\bl2.length=s/\(∀r∈d2,r.length=w)/\p<=q/\q<=p+7*s/\∀(R:Type) (L n m:Nat) (k:KE R),2<=n->2^60<=L->s<m->
  aT env (aA env L n) L 1 (W32 (W4 (W1 [1002]))) Bz7 (kA 0) Bz41 m (.ptr 0 0 0::Y1 (nI st::Y2 (Y1 (.ptr 1 0 0::.ptr 2 0 0::nI w::nI 0::Y32 (Y4 (Y2 (Y1 ([])))))))) (rdO c p::.box [nI 0,.sl 3 0 0 0,.sl 4 0 0 0]::.box [nI al,.sl 5 0 0 0,.sl 6 0 0 0]::.arr [] 0 0::.arr [] 0 0::.arr [] 0 0::.arr [] 0 0::[]) k
  =k (.exit 0) (.ptr 0 0 0::Y1 (nI st::Y2 (Y1 (.ptr 1 0 0::.ptr 2 0 0::nI w::nI s::Y32 (Y4 (Y2 (Y1 ([])))))))) (rdO c q::.box [nI 0,.sl 3 0 0 0,.sl 4 0 0 0]::.box [nI al,.sl 5 0 0 (List.length d2),.sl 6 0 0 (List.length bl2)]::.arr [] 0 0::.arr [] 0 0::.vec (aC 7 d2++aH 0) 1 0::.arr (aD bl2) 1 0::aK d2):=by
 obtain⟨j,hj⟩:∃j,s=j+1:=⟨s-1,by omega⟩
 obtain⟨r,q,g1,g2,kd1⟩:=XA hc (al:=al) (st:=st) (i9:=0) hw (cs:=[]) (z:=0) w 0 p [] om rfl hp om;obtain⟨v,v0,v1,v2,kd2⟩:=eC hc q 3 om om;obtain⟨d2,bl2,q2,e1,e2,e3,e4,e5,kd3⟩:=aAD hc (al:=al) (st:=st) hw hst hs j 1 (q+1) [r] [decide (0<v)] om rfl rfl (by intro x hx;simp at hx;subst hx;exact g1) om om;refine⟨d2,bl2,q2,e1,e2,e3,by omega,by omega,fun R L n m k hn hL hm=> ?_⟩;obtain _|m:=m;omega;have kd3':=kd3 R L n m k hn hL om;have loop_c:=fun {R:Type} {n:Nat} {k:KE R} (hn:2<=n)=>kd1 R L n L k hn hL om;simp only[Ap,kG]at loop_c;have e7:aC 7 [r]++aH 0=[.sl 7 0 0 r.length]:=rfl;have e8:aK [r]=[.arr (ints r) 1 0]:=rfl;have e9:aD [decide (0<v)]=[.bool (decide (0<v))]:=rfl;rw[e7,e8,e9,g1]at kd3';simp only[Ae,Ac,Ag,show((1:Nat):Int)=1 from rfl]at kd3';have hc1:(0:Int)<st:=om;generalize hbv:decide (0<v)=b at *;clear kd1 kd3
 simp-implicitDefEqProofs (maxSteps:=9^7) (disch:=try exact Dz) only[↓DN,↓kAsg,↓kRet,UP,simprocAttr,hc1,hbv,↓loop_c,↓kd2,↓kd3',wA,uO,Tryz.f59]
theorem GE{c:List UInt8}(hc:c.length<=2000)(al st:Int){s:Nat}(hst:st=s)(hs:s<=100)(h1:1<=s)(p:Int)(hp:0<=p)(hp2:p+7*s<=1000000000):
  ∃(nx:List (List Int)) (ac:List Bool) (q:Int),nx.length=s/\ac.length=s/\(∀r∈nx,r.length=(aB al).length)/\p<=q/\q<=p+7*s/\∀(L n:Nat),3<=n->2^60<=L->
  aA env L n 59 [.ptr 0 0 0,nI al,nI st] [rdO c p]=some (autA 1 al nx.length ac.length,rdO c q::autO 1 nx ac):=by
 obtain⟨nx,ac,q,g1,g2,g3,g4,g5,kd⟩:=UI hc (al:=al) (st:=st) (w:=(aB al).length) (bO al) hst hs h1 p hp hp2;refine⟨nx,ac,q,g1,g2,g3,g4,g5,fun L n hn hL=> ?_⟩;have loop_c:=fun {R:Type} {n:Nat} {k:KE R} (hn:2<=n)=>kd R L n L k hn hL om;have hnl:nx.length<=4294967296:=om;have hbl:(aD ac).length=ac.length:=cU;unfold autA autO;clear kd;obtain _|n:=n;omega
 simp-implicitDefEqProofs (maxSteps:=9^7) (disch:=try exact Dz) only[↓DN,↓kAsg,↓kRet,UP,simprocAttr,↓gJ,↓loop_c,↓aRu,↓aSk,z0As,z0A,eq_self,aJI,aJq,aKC,ZD,Tryz.f59]
theorem aN3{R:Type}{call:aZ}{hq:H}{f:FuncId}{args:List A}{c:List UInt8}{p q al:Int}{rs:List (List Int)}{ac:List Bool}{k:KA R}(hm:(env.hint f).mode=0)(ha:idsL args=[])(he:call f (.ptr 0 0 0::args) [rdO c p]=some (autA 1 al rs.length ac.length,rdO c q::autO 1 rs ac)):
  aX env call (rdO c p::hq) f (.ptr 0 0 0::args) k=k (autA (hq.length+1) al rs.length ac.length) (rdO c q::(hq++autO (hq.length+1) rs ac)):=by
 have hid:idsL (A.ptr 0 0 0::args)=[0]:=by simp[idsL,idsA,ha]
 have hre:aF aI (rdO c p::hq) [0] []=[0]:=rfl;have hpk:pack (rdO c p::hq) [0]=[rdO c p]:=rfl
 have hma:aG (aJ [0]) (A.ptr 0 0 0::args)=A.ptr 0 0 0::args:=by
  simp only[aG,fU _ ha];rfl
 have hc:bY call env.hint [rdO c p] f (.ptr 0 0 0::args)=some (autA 1 al rs.length ac.length,rdO c q::autO 1 rs ac):=by
  unfold bY;rw[hm];exact he
 have hcl:closed (rdO c p::hq) [0] [0]=true:=rfl
 have hb:∀i,i<rs.length+2->back [0] (hq.length+1) (rs.length+3) (1+i)=some (hq.length+1+i):=by
  intro i hi;unfold back;rw[if_neg smp,if_pos om];simp
 have hmp:(autO 1 rs ac).map (mapO (back [0] (hq.length+1) (rs.length+3)))=autO (hq.length+1) rs ac:=by
  simp only[autO,Aj];rw[aOL (d:=hq.length+1+2) fun i hi=>by rw[show 1+2+i=1+(2+i) by omega,hb _ om];congr 1;omega,aLG];rfl
 have hrm:mapA (back [0] (hq.length+1) (rs.length+3)) (autA 1 al rs.length ac.length)=autA (hq.length+1) al rs.length ac.length:=
  aNK (by simpa using hb 0 om) (hb 1 om)
 have hlen:(rdO c q::autO 1 rs ac).length=rs.length+3:=by rw[Ae,TA]
 unfold aX;rw[hid,hre,hpk,hma,hc];simp only[hlen,Ae,Ac,hcl,hrm,Ag,show 1<=rs.length+3 by omega,and_self,if_true];simp only[bJ,Cj,hmp]
 congr 1
theorem RP{t:H}{y1 y2:D}{v n m:Nat}{al:Int}{rs:List (List Int)}{ac:List Bool}(k:Has (.box [.d y1,.d y2]::t) v rs ac)(hv:1<=v)(hn:n=rs.length)(hm:m=ac.length):
  ∃h2,p9 1 false (.box [.d y1,.d y2]::t) [.agg [nI al,.sl v 0 0 n,.sl (v+1) 0 0 m]]=some ([autD al rs ac],h2)/\aF 1099511627776 h2 (eM (List.take 1 h2)) [0]=[0]/\List.getD h2 0 default=.box [.d y1,.d y2]:=by
 subst hn;subst hm;obtain⟨ha,e1,i1⟩:=aBy 4 (aJF _) (aXa k);obtain⟨hb,e2,i2⟩:=aBy 4 i1 (aW7 k)
 have h0:hb[0]? =some (.box [.d y1,.d y2]):=by
  rcases i2 0 with h|⟨_,_,_,h,_⟩|⟨_,_,_,_,h,_⟩
  ·rw[h];rfl
  ·cases h
  ·cases h
 obtain⟨t2,rfl⟩:∃t2,hb=.box [.d y1,.d y2]::t2:=by
  cases hb with
  |nil=>simp at h0
  |cons o t2=>simp at h0;exact⟨t2,by rw[h0]⟩
 refine⟨.box [.d y1,.d y2]::t2,?_,rfl,rfl⟩;have hv1:¬(v<1):=om;have hv2:¬(v+1<1):=om;simp only[p9,outA,EB,outS,hv1,hv2,decide_false,Bool.or_self,Al,if_false];rw[show deep=4+1 from rfl,e1];simp only[Bb];rw[e2];rfl
theorem Q1{h:H}{v:Nat}{rs:List (List Int)}{ac:List Bool}{p:H}(hd:h.length=v):Has (h++(.vec (aC (v+2) rs++aH 0) 1 0::.arr (aD ac) 1 0::(aK rs++p))) v rs ac:=by
 subst hd;have:=aVU (h2:=p) (aWy (h:=h) (rs:=rs) (ac:=ac))
 simpa [autO]using this
theorem aQA:(env.hint 59).mode=0:=kr
theorem QB{R:Type}{L n:Nat}{hq:H}{c:List UInt8}{p q al st:Int}{rs:List (List Int)}{ac:List Bool}{k:KA R}(hn:3<=n)(hL:2^60<=L)
  (he:∀(L n:Nat),3<=n->2^60<=L->aA env L n 59 [.ptr 0 0 0,nI al,nI st] [rdO c p]=some (autA 1 al rs.length ac.length,rdO c q::autO 1 rs ac)):
  aX env (aA env L n) (rdO c p::hq) 59 [.ptr 0 0 0,nI al,nI st] k=k (autA (hq.length+1) al rs.length ac.length) (rdO c q::(hq++autO (hq.length+1) rs ac)):=
 aN3 aQA (by simp[idsL,idsA]) (he L n hn hL)
def BO(x:Int):Nat->Nat->List Bool->List Bool
 |0,_,bl=>bl
 |j+1,i,bl=>BO x j (i+1) (bl.set i (decide ((i:Int)<x)))
theorem aJN(x:Int):∀(j i:Nat) (bl:List Bool),(BO x j i bl).length=bl.length
 |0,_,_=>rfl
 |j+1,i,bl=>by rw[BO,aJN x j,Bs]
def AK(x:Int):Nat->Nat->List Int->List Int
 |0,_,r=>r
 |j+1,i,r=>AK x j (i+1) (r.set i x)
theorem ZA(x:Int):∀(j i:Nat) (r:List Int),(AK x j i r).length=r.length
 |0,_,_=>rfl
 |j+1,i,r=>by rw[AK,ZA x j,Bs]
theorem aS9{l:List Bool}{k:Nat}{v:Bool}(h:k<l.length):List.take k (aD l)++[D.bool v]++List.drop (k+1) (aD l)=aD (l.set k v):=aJy h
theorem aEG{l:List Int}{k:Nat}{v:Int}(h:k<l.length):List.take k (ints l)++[D.int .i64 v]++List.drop (k+1) (ints l)=ints (l.set k v):=JI h
theorem kO{rs:List (List Int)}{k:Nat}(h:k<rs.length):((aC 7 rs++aH 0).drop k).head? =some (.sl (k+7) 0 0 (rs.getD k []).length):=by
 rw[aJk (b:=0) (k:=0) h,De]
theorem FJ{rs:List (List Int)}{b k:Nat}{r:List Int}(h:r.length=(rs.getD k []).length):aC b (rs.set k r)=aC b rs:=by
 apply aGB;rw[List.map_set]
 by_cases hk:k<rs.length
 ·have:r.length=(rs.map List.length)[k]'(by simpa using hk):=by
   rw[h,Du,Aa,Ad hk];rfl
  rw[this,List.set_getElem_self]
 ·rw[List.set_eq_of_length_le (by simp;omega)]
theorem aWG{m:List Bool}{s:List A}{y1 y2 x0 x1:D}{k z:Nat}{cs:List D}{d d2:List (List Int)}(he:aC 7 d2=aC 7 d)(hl:d2.length<=4294967296):gc 1 m s (.box [.d y1,.d y2]::.box [.d x0,.sl 3 0 0 0,.sl 4 0 0 0]::.box [.d x1,.sl 5 0 0 k,.sl 6 0 0 z]::.arr [] 0 0::.arr [] 0 0::.vec (aC 7 d++aH 0) 1 0::.arr cs 1 0::aK d2)=match box (tidy m s)with
  |.mk s1=>if idsL s1=[1,2]/\z0As s1=true then(aG (C0 d2.length) s1,.box [.d y1,.d y2]::.box [.d x0,.sl 3 0 0 0,.sl 4 0 0 0]::.box [.d x1,.sl 5 0 0 k,.sl 6 0 0 z]::.arr [] 0 0::.arr [] 0 0::.vec (aC 7 d++aH 0) 1 0::.arr cs 1 0::aK d2)else gcO 1 m s (.box [.d y1,.d y2]::.box [.d x0,.sl 3 0 0 0,.sl 4 0 0 0]::.box [.d x1,.sl 5 0 0 k,.sl 6 0 0 z]::.arr [] 0 0::.arr [] 0 0::.vec (aC 7 d++aH 0) 1 0::.arr cs 1 0::aK d2)
  |.no=>([],[]):=by
 rw[<-he];exact JF hl
theorem aIf{R:Type}{L n:Nat}{y1 y2 x0:D}{al st x:Int}{s:Nat}{nx:List (List Int)}(hx:st-1=x)(hst:st=s)(hs:s<=100)(hnl:nx.length<=4294967296){k:KE R}:∀(j i m:Nat) (bl:List Bool) (len:Nat) (hi:i+j=s) (hm:j<m) (hbl:bl.length=s) (hlen:len=bl.length),
  aT env (aA env L n) L 1 [] Bz12 (rO 0) (U2 (Z1 (U2 (U1 (Z2 (Z1 (U32 (U8 ([]))))))))) m (Y2 (nI st::Y2 (Y1 (.ptr 1 0 0::.ptr 2 0 0::nI i::Y32 (Y8 ([])))))) (.box [.d y1,.d y2]::.box [.d x0,.sl 3 0 0 0,.sl 4 0 0 0]::.box [nI al,.sl 5 0 0 nx.length,.sl 6 0 0 len]::.arr [] 0 0::.arr [] 0 0::.vec (aC 7 nx++aH 0) 1 0::.arr (aD bl) 1 0::aK nx) k
  =k (.exit 0) (Y2 (nI st::Y2 (Y1 (.ptr 1 0 0::.ptr 2 0 0::nI s::Y32 (Y8 ([])))))) (.box [.d y1,.d y2]::.box [.d x0,.sl 3 0 0 0,.sl 4 0 0 0]::.box [nI al,.sl 5 0 0 nx.length,.sl 6 0 0 s]::.arr [] 0 0::.arr [] 0 0::.vec (aC 7 nx++aH 0) 1 0::.arr (aD (BO x j i bl)) 1 0::aK nx):=by
 intro j
 induction j with
 |zero=>
  intro i m bl len hi hm hbl hlen;obtain _|m:=m;omega;obtain rfl:i=s:=om;rw[hbl]at hlen;subst hlen;have hc1:¬((len:Int)<st):=om
  simp-implicitDefEqProofs (maxSteps:=9^7) (disch:=try exact Dz) only[↓DN,↓kRet,UP,simprocAttr,hc1,↓JF,z0As,z0A,eq_self,s5,tX,BO,OJ,LJ,Tryz.f99]
 |succ j ih=>
  intro i m bl len hi hm hbl hlen;obtain _|m:=m;omega;subst hlen;have hc1:(i:Int)<st:=om;have hk:i<bl.length:=om;have hb1:(0:Int)<=i:=om;have ih':=ih (i+1) m (bl.set i (decide ((i:Int)<x))) bl.length om om (by simpa using hbl) smp;rw[cs1 i]at ih';rw[BO];clear ih
  simp-implicitDefEqProofs (maxSteps:=9^7) (disch:=try exact Dz) only[↓DN,↓kRet,UP,simprocAttr,LA,hc1,hx,aS9,↓JF,z0As,z0A,eq_self,s5,tX,↓ih',OJ,LJ,Tryz.f99]
theorem aHB{R:Type}{L n:Nat}{y1 y2 x0:D}{al st i9:Int}{s t:Nat}{bl:List Bool}{w:Nat}(hx:st-1=(t:Int))(hs:s<=100)(hw:w<=100)(ht:t<s){k:KE R}:∀(j i m:Nat) (nx:List (List Int)) (len:Nat) (hi:i+j=w) (hm:j<m) (hr:(nx.getD t []).length=w) (hnx:nx.length=s) (hlen:len=nx.length),
  aT env (aA env L n) L 1 [] Bz12 (rO 1) Bz45 m (Y2 (nI st::Y2 (Y1 (.ptr 1 0 0::.ptr 2 0 0::nI i9::nI i::Y32 (Y4 (Y2 (Y1 ([])))))))) (.box [.d y1,.d y2]::.box [.d x0,.sl 3 0 0 0,.sl 4 0 0 0]::.box [nI al,.sl 5 0 0 len,.sl 6 0 0 bl.length]::.arr [] 0 0::.arr [] 0 0::.vec (aC 7 nx++aH 0) 1 0::.arr (aD bl) 1 0::aK nx) k
  =k (.exit 2) (Y2 (nI st::Y2 (Y1 (.ptr 1 0 0::.ptr 2 0 0::nI i9::nI w::Y32 (Y4 (Y2 (Y1 ([])))))))) (.box [.d y1,.d y2]::.box [.d x0,.sl 3 0 0 0,.sl 4 0 0 0]::.box [nI al,.sl 5 0 0 s,.sl 6 0 0 bl.length]::.arr [] 0 0::.arr [] 0 0::.vec (aC 7 nx++aH 0) 1 0::.arr (aD bl) 1 0::aK (nx.set t (AK t j i (nx.getD t [])))):=by
 intro j
 induction j with
 |zero=>
  intro i m nx len hi hm hr hnx hlen;obtain _|m:=m;omega;obtain rfl:i=w:=om;rw[hnx]at hlen;subst hlen;have hc1:¬((i:Int)<(i:Int)):=om;have hnl:nx.length<=4294967296:=om;have hkd:t<nx.length:=om;have hg:=aLE hkd
  have e1:nx.set t (nx.getD t [])=nx:=by
   rw[Aa,Ad hkd];exact List.set_getElem_self hkd
  rw[AK,e1]
  simp-implicitDefEqProofs (maxSteps:=9^7) (disch:=try exact Dz) only[↓DN,↓kRet,UP,simprocAttr,hx,hr,hc1,kO,↓JF,z0As,z0A,eq_self,s5,tX,PG,ME,Tryz.f99]
 |succ j ih=>
  intro i m nx len hi hm hr hnx hlen;obtain _|m:=m;omega;subst hlen;have hnl:nx.length<=4294967296:=om;have hkd:t<nx.length:=om;have hg:=aLE hkd;have hc1:(i:Int)<(w:Int):=om;have hk:i<(nx.getD t []).length:=om;have hb1:(0:Int)<=i:=om
  have hgs:(nx.set t ((nx.getD t []).set i t)).getD t []=(nx.getD t []).set i t:=by
   rw[Aa,En hkd];rfl
  have hrs:aC 7 (nx.set t ((nx.getD t []).set i t))=aC 7 nx:=FJ smp;have ih':=ih (i+1) m (nx.set t ((nx.getD t []).set i t)) nx.length om om (by rw[hgs];simpa using hr) (by simpa using hnx) smp;rw[cs1 i,hgs,hrs,List.set_set]at ih';rw[AK];have hnl2:(nx.set t ((nx.getD t []).set i t)).length<=4294967296:=by rw[Bs];omega
  clear ih hgs;generalize hro:nx.getD t []=ro at *
  simp-implicitDefEqProofs (maxSteps:=9^7) (disch:=try exact Dz) only[↓DN,↓kRet,UP,simprocAttr,hx,hr,hro,hg,hc1,kO,aSr,aEG,↓aWG,z0As,z0A,eq_self,s5,tX,↓ih',PG,ME,Tryz.f99]
theorem aF1{R:Type}{L n m:Nat}{y1 y2 x0:D}{al st i9:Int}{s t:Nat}{bl:List Bool}{w:Nat}{nx:List (List Int)}(hx:st-1=(t:Int))(hs:s<=100)(hw:w<=100)(ht:t<s)(hm:w<m)(hr:(nx.getD t []).length=w)(hnx:nx.length=s){k:KE R}:
  aT env (aA env L n) L 1 [] Bz12 (rO 1) Bz45 m (Y2 (nI st::Y2 (Y1 (.ptr 1 0 0::.ptr 2 0 0::nI i9::nI 0::Y32 (Y4 (Y2 (Y1 ([])))))))) (.box [.d y1,.d y2]::.box [.d x0,.sl 3 0 0 0,.sl 4 0 0 0]::.box [nI al,.sl 5 0 0 s,.sl 6 0 0 bl.length]::.arr [] 0 0::.arr [] 0 0::.vec (aC 7 nx++aH 0) 1 0::.arr (aD bl) 1 0::aK nx) k
  =k (.exit 2) (Y2 (nI st::Y2 (Y1 (.ptr 1 0 0::.ptr 2 0 0::nI i9::nI w::Y32 (Y4 (Y2 (Y1 ([])))))))) (.box [.d y1,.d y2]::.box [.d x0,.sl 3 0 0 0,.sl 4 0 0 0]::.box [nI al,.sl 5 0 0 s,.sl 6 0 0 bl.length]::.arr [] 0 0::.arr [] 0 0::.vec (aC 7 (nx.set t (AK t w 0 (nx.getD t [])))++aH 0) 1 0::.arr (aD bl) 1 0::aK (nx.set t (AK t w 0 (nx.getD t [])))):=by
 rw[FJ (by rw[ZA])];exact aHB hx hs hw ht w 0 m nx s om hm hr hnx hnx.symm
theorem LO{d:List (List Int)}{o o1 o2:O}{p:H}{k:Nat}(h:k=d.length+2):(aK d++o1::o2::o::p)[k]? =some o:=by
 subst h;rw[Bo (by rw[cG];omega),cG,Ed];rfl
theorem KW{d:List (List Int)}{o o1 o2 q:O}{p:H}{k:Nat}(h:k=d.length+2):(aK d++o1::o2::o::p).set k q=aK d++o1::o2::q::p:=by
 rw[Dn _ _ (by rw[cG];omega),cG,h,Ed];rfl
theorem aOp{c:List UInt8}(hc:c.length<=2000)(al st:Int){s:Nat}(hst:st=s)(hs:s<=100)(h1:1<=s)(p:Int)(hp:0<=p)(hp2:p+7*s<=1000000000):
  ∃(nx:List (List Int)) (ac:List Bool) (q:Int),nx.length=s/\ac.length=s/\(∀r∈nx,r.length=(aB al).length)/\p<=q/\q<=p+7*s/\∀(L n:Nat),4<=n->2^60<=L->
  aA env L n 99 [.ptr 0 0 0,nI al,nI st] [rdO c p]=some (autD al nx ac,[rdO c q]):=by
 obtain⟨nx,ac,q,g1,g2,g3,g4,g5,he⟩:=GE hc al st hst hs h1 p hp hp2;obtain⟨t,rfl⟩:∃t,s=t+1:=⟨s-1,by omega⟩
 have hx:st-1=(t:Int):=om;have hw:=bO al;have hk:t<nx.length:=om
 have hr:(nx.getD t []).length=(aB al).length:=by
  rw[Aa,Ad hk];exact g3 _ (At hk)
 have hl1:(nx.set t (AK t (aB al).length 0 (nx.getD t []))).length=t+1:=by rw[Bs,g1]
 have hl2:(BO (t:Int) (t+1) 0 ac).length=t+1:=by rw[aJN,g2]
 refine⟨nx.set t (AK t (aB al).length 0 (nx.getD t [])),BO (t:Int) (t+1) 0 ac,q,hl1,hl2,?_,g4,g5,fun L n hn hL=> ?_⟩
 ·intro r hrm
  rcases Dy hrm with h|h
  ·exact g3 r h
  ·rw[h,ZA,hr]
 have kd:=fun {R:Type} {n:Nat} {hq:H} {k:KA R} (hn:3<=n)=>QB (R:=R) (L:=L) (n:=n) (hq:=hq) (k:=k) hn hL he;have hnl:nx.length<=4294967296:=om;have loop_a:=fun {R:Type} {n:Nat} {y1 y2 x0:D} {k:KE R}=>aIf (R:=R) (L:=L) (n:=n) (y1:=y1) (y2:=y2) (x0:=x0) (al:=al) (nx:=nx) (k:=k) hx hst hs hnl (t+1) 0 L ac ac.length om om g2 rfl;have loop_b:=fun {R:Type} {n:Nat} {y1 y2 x0:D} {i9:Int} {k:KE R}=>aF1 (R:=R) (L:=L) (n:=n) (m:=L) (y1:=y1) (y2:=y2) (x0:=x0) (al:=al) (i9:=i9) (bl:=BO (t:Int) (t+1) 0 ac) (k:=k) hx hs om om om hr g1;rw[hl2]at loop_b;rw[g1,g2]at loop_a;simp only[autA,autO,g1,g2]at kd;simp only[Ap]at loop_a;have hbl:(aD (BO (t:Int) (t+1) 0 ac)).length=t+1:=by rw[cU,hl2]
 generalize nx.set t (AK t (aB al).length 0 (nx.getD t []))=nx2 at *;generalize BO (t:Int) (t+1) 0 ac=ac2 at *;have hnl2:nx2.length<=4294967296:=om
 have hH:Has (rdO c q::.box [nI al,.sl 5 0 0 (t+1),.sl 6 0 0 (t+1)]::.box [nI al,.sl 5 0 0 (t+1),.sl 6 0 0 (t+1)]::.arr [] 0 0::.arr [] 0 0::.vec (aC 7 nx2++aH 0) 1 0::.arr (aD ac2) 1 0::aK nx2) 5 nx2 ac2:=by
  have:=Q1 (h:=[rdO c q,.box [nI al,.sl 5 0 0 (t+1),.sl 6 0 0 (t+1)],.box [nI al,.sl 5 0 0 (t+1),.sl 6 0 0 (t+1)],.arr [] 0 0,.arr [] 0 0]) (v:=5) (rs:=nx2) (ac:=ac2) (p:=[]) rfl
  simpa using this
 obtain⟨h2,st_out,st_keep,st_trim⟩:=RP (n:=t+1) (m:=t+1) (al:=al) hH om hl1.symm hl2.symm;simp only[autD]at st_out|-;clear he g3 g4 g5 hH;obtain _|n:=n;omega
 simp-implicitDefEqProofs (maxSteps:=9^7) (disch:=try exact Dz) only[↓DN,↓kAsg,↓kRet,UP,simprocAttr,g1,↓kd,↓loop_a,↓loop_b,cG,Ao,LO,KW,↓aWw,aQh,aIT,aG4,↓JF,s5,tX,↓st_out,↓st_keep,↓st_trim,z0As,z0A,eq_self,aOd,aFS,Tryz.f99]
end Ev
end Go.Proofs.YtppffbehejpglaaGreatDoor
