/-
  The first word that tells two states of automata apart, walked: the program's and the reference's.
-/
import Derived.Test.YtahbdkmimmnadaaGreatDoorPathZ
import Derived.Test.YtahbdkmimmnadaaGreatDoorPathV
import Derived.Test.YtahbdkmimmnadaaGreatDoorPartsN
import Derived.Test.YtahbdkmimmnadaaGreatDoorLeast
import Derived.Test.YtahbdkmimmnadaaGreatDoorRead
import Derived.Test.YtahbdkmimmnadaaGreatDoorEvPrim
import Derived.Tactics
set_option linter.unusedSimpArgs false
set_option linter.unusedVariables false
set_option linter.unusedSectionVars false
set_option maxRecDepth 8000
set_option maxHeartbeats 4000000
namespace Go.Proofs.YtahbdkmimmnadaaGreatDoor
namespace Ev
theorem eX{a:Aut}(h:AOK a):bN a.nx/\wL (aC a.al).length a.nx/\1<=a.nx.length/\a.nx.length<=12/\a.ac.length=a.nx.length:=by
 obtain⟨a1,a2,a3,a4⟩:=nY h;have aw:=yJ h;exact⟨⟨by omega,fun r hr=>by have:=aw r hr;have:=dD a.al;omega⟩,aw,a1,a2,a3⟩
def tabP(a:Aut):D:=.iptr [.ivs a.nx.length (ints (gJ a.al a.nx))]
def autP(a:Aut):D:=.iptr [.int .i64 a.al,.ivs a.nx.length (aP a.nx),.ivs a.ac.length (aK a.ac)]
theorem aPk{p r:List Int}{x:Int}:(p++x::r).getD p.length 0=x:=by simp[Aa]
theorem aQ8{p r:List Int}{x v:Int}:(p++x::r).set p.length v=p++v::r:=sm
theorem PW:∀(ms:List Mb),totR ms=ms.foldr (fun m z=>z*m.1) 1
 | []=>rfl
 |m::ms=>by rw[totR,PW ms,List.foldr_cons]
theorem aMt{P:List Sys}{l:Int}:totR (P.reverse.map (sysI l))=cI P:=by
 rw[PW,List.map_reverse,List.foldr_reverse,List.foldl_map];rfl
theorem aHu:∀ {P:List Sys} {z:Int} (_:0<=z) (_:∀s∈P,bK s=true),0<=P.foldl (fun z s=>z*s.st) z/\P.foldl (fun z s=>z*s.st) z<=16^P.length*z
 | [],z,hz,_=>by simpa using hz
 |s::P,z,hz,h=>by
  obtain⟨_,s1,s2,_,_⟩:=dK.1 (h s Bg);have h0:=Cd hz (show 0<=s.st by omega);obtain⟨h1,h2⟩:=aHu h0 fun s hs=>h s (Bc _ hs);rw[Co,Ac,Int.pow_succ,Int.mul_assoc];refine⟨h1,Cy h2 (Dn ?_ (Int.pow_nonneg om))⟩;rw[Int.mul_comm];exact Cm s2 hz
theorem CK{P:List Sys}(h3:P.length<=3)(hs:∀s∈P,bK s=true):0<=cI P/\cI P<=4096:=by
 obtain⟨h1,h2⟩:=aHu (P:=P) (z:=1) om hs;refine⟨h1,Cy h2 ?_⟩
 rcases(show P.length=0\/P.length=1\/P.length=2\/P.length=3 by omega)with h|h|h|h<;>rw[h]<;>decide
theorem aRY{P:List Sys}{l v:Int}(hs:∀s∈P,bK s=true)(hl:0<=l/\l<6)(hv:0<=v):∀x∈pnx (P.reverse.map (sysI l)) v,0<=x/\x<cI P:=by
 intro x hx;rw[<-aMt (l:=l)];refine XQ (fun m hm=> ?_) hv x (aDZ.1 hx);obtain⟨s,hs2,rfl⟩:=Bf.1 hm;have hso:=hs s (Cq.1 hs2);obtain⟨_,s1,s2,_,_⟩:=dK.1 hso;exact⟨by show 0<s.st;omega,fun q h0 h1=>aHv hso hl ⟨h0,h1⟩⟩
def nxBk(P:List Sys)(a b:Aut)(x c:Int):List Int:=(pnx (P.reverse.map (sysI c)) ((x.tdiv b.nx.length).tdiv a.nx.length)).map fun y=>y*a.nx.length*b.nx.length+(goI a.al a.nx ((x.tdiv b.nx.length).tmod a.nx.length) c*b.nx.length+goI b.al b.nx (x.tmod b.nx.length) c)
def inBk(P:List Sys)(a b:Aut)(x:Int):Prop:=0<=x/\x<cI P*a.nx.length*b.nx.length
def parP(P:List Sys):D:=.iptr [.ivs P.length (sysD P),.ivs P.length (mvsD P)]
theorem aO6{R:Type}{L n g:Nat}(hn:1<=n){na nb z:Int}(hna:0<=na/\na<=12)(hnb:0<=nb/\nb<=12)(hz:0<=z/\z<=1000){k:KE R}:∀(j:Nat) (i:Int) (m:Nat) (p r:List Int) (len:Nat) (hi:i=p.length) (hj:r.length=j) (hm:j<m) (hlen:(p++r).length=len) (hb:len<=4294967296) (hx:∀x∈r,0<=x/\x<4096),
  aS env (aA env L n) L 1 [] Bz27 (qF 0) (U2 (Z1 (U1 (Z2 (U4 (U1 (Z2 (U1 (Z1 (U32 (U16 (U4 (U1 ([])))))))))))))) m (Y2 (.sl 0 g 0 len::Y1 (.d (.iptr [.int .i64 nb])::.d (.iptr [.int .i64 na])::Y4 (Y1 (.d .nils::nI z::Y1 (nI i::Y32 (Y16 (Y4 (Y1 ([])))))))))) [.arr (ints (p++r)) 1 g] k
  =k (.exit 0) (Y2 (.sl 0 g 0 len::Y1 (.d (.iptr [.int .i64 nb])::.d (.iptr [.int .i64 na])::Y4 (Y1 (.d .nils::nI z::Y1 (nI len::Y32 (Y16 (Y4 (Y1 ([])))))))))) [.arr (ints (p++r.map fun x=>x*na*nb+z)) 1 g]:=by
 intro j
 induction j with
 |zero=>
  intro i m p r len hi hj hm hlen hb hx;obtain _|m:=m;omega;obtain rfl:=Bs.1 hj;rw[Ah]at hlen;subst hi;subst hlen;simp only[Ah,Al]
  simp-implicitDefEqProofs (maxSteps:=9^7) (disch:=try exact Dz) only[↓DN,↓kRet,UP,simprocAttr,Ak,tM,oV,Tryz.f149]
 |succ j ih=>
  intro i m p r len hi hj hm hlen hb hx;obtain _|m:=m;omega;obtain _|⟨x,r⟩:=r
  ·simp at hj
  obtain⟨x0,x1⟩:=hx x Bg;have hc:(p.length:Int)<len:=by simp at hlen;omega
  have hk:p.length<(p++x::r).length:=sm;have hi0:(0:Int)<=p.length:=om;have a0:0<=x*na:=Cd x0 hna.1;have a1:x*na<=x*12:=Dn hna.2 x0;have b0:0<=x*na*nb:=Cd a0 hnb.1;have b1:x*na*nb<=x*na*12:=Dn hnb.2 a0;have w1:IntKind.i64.wrap (x*na)=x*na:=dM om om;have w2:IntKind.i64.wrap (x*na*nb)=x*na*nb:=dM om om;have w3:IntKind.i64.wrap (x*na*nb+z)=x*na*nb+z:=dM om om;have ih':=ih ((p.length:Int)+1) m (p++[x*na*nb+z]) r len sm (by simpa using hj) om (by simpa using hlen) hb (fun y hy=>hx y (Bc _ hy));subst hi;rw[Af];simp only[Ao,En]at ih';have hs:=@aQ8 p r x (x*na*nb+z);clear ih hx
  simp-implicitDefEqProofs (maxSteps:=9^7) (disch:=try exact Dz) only[↓DN,↓kRet,UP,simprocAttr,hc,hi0,aPk,hs,w1,w2,w3,↓GR,↓ih',tM,oV,Tryz.f149]
theorem aSU{R:Type}{L n id:Nat}{hq:H}{k:KA R}(hn:4<=n)(hL:2^60<=L){P:List Sys}(hP:cW P)(hv:bQ P=true){v l:Int}(hl:0<=l/\l<6)(hv0:0<=v)(hv1:v<=4294967296)(o:List Int)(ho:o.length<=4200000000)(hid:hq[id]? =some (.arr (ints o) 1 0)):
  aW env (aA env L n) hq 150 [.agg [.d (.ivs P.length (sysD P)),.d (.ivs P.length (mvsD P))],nI v,nI l,.sl id 0 0 o.length] k
  =k (.sl id 1 0 (o++pnx (P.reverse.map (sysI l)) v).length) (hq.set id (.arr (ints (o++pnx (P.reverse.map (sysI l)) v)) 1 1)):=by
 refine aBE hid (by simp[idsL,idsA]) uA ?_;have hpl:aH [id] id=some 0:=by simp[aH]
 simp only[aE,mapA,hpl];exact aCf hn hL hP hv hl hv0 hv1 o ho
theorem SJ{L n:Nat}(hn:5<=n)(hL:2^60<=L){P:List Sys}(hP:cW P)(hv:bQ P=true){a b:Aut}(ha:AOK a)(hb:AOK b){x c:Int}(hx:inBk P a b x)(hc0:0<=c)(hc6:c<6)(o:List Int)(ho:o.length<=4200000000):
  aA env L n 149 [nI x,nI c,.sl 0 0 0 o.length,.d (tabP a),.d (.iptr [.int .i64 b.nx.length]),.d (.iptr [.int .i64 a.nx.length]),.d (tabP b),.d (parP P)] [.arr (ints o) 1 0]=some (.sl 0 1 0 (o++nxBk P a b x c).length,[.arr (ints (o++nxBk P a b x c)) 1 1]):=by
 obtain⟨h3,h1,hs⟩:=dH hv;obtain⟨sz0,sz1⟩:=CK h3 hs;obtain⟨sa,wa,a1,a2,a3⟩:=eX ha;obtain⟨sb,wb,b1,b2,b3⟩:=eX hb;obtain⟨p,q⟩:=P8 (na:=cI P*a.nx.length) (nb:=b.nx.length) om hx.1 hx.2;obtain⟨p2,r⟩:=P8 (na:=cI P) (nb:=a.nx.length) om p.1 p.2;have ga:=GK ha r.1 r.2 hc0 hc6;have gb:=GK hb q.1 q.2 hc0 hc6;have hla:=oG a.al a.nx;have hlb:=oG b.al b.nx;have hta:=XV (al:=a.al) r.1 r.2 hc0 hc6;have htb:=XV (al:=b.al) q.1 q.2 hc0 hc6;rw[Br]at hta htb;have hin:=aKC ga gb;have hm0:0<=goI a.al a.nx ((x.tdiv b.nx.length).tmod a.nx.length) c*b.nx.length:=Cd ga.1 om
 have hprod:(a.nx.length:Int)*b.nx.length<=144:=by
  have h1:(a.nx.length:Int)*b.nx.length<=12*b.nx.length:=Cm om om;omega
 have xs:x<=4294967296:=by
  have t1:cI P*a.nx.length*b.nx.length<=4096*144:=by
   rw[Int.mul_assoc];exact Cy (Cm sz1 (Cd om om)) (Dn hprod om)
  have:=hx.2;omega
 have hb0:¬(b.nx.length:Int)=0:=om;have ha0:¬(a.nx.length:Int)=0:=om;have d1:((x.tdiv b.nx.length).tmod a.nx.length).toNat*6<=a.nx.length*6:=om;have d2:(x.tmod b.nx.length).toNat*6<=b.nx.length*6:=om;have d3:c.toNat<a.nx.length*6-((x.tdiv b.nx.length).tmod a.nx.length).toNat*6:=om;have d4:c.toNat<b.nx.length*6-(x.tmod b.nx.length).toNat*6:=om
 have v1:(x.tdiv b.nx.length).tdiv a.nx.length<=4294967296:=by
  have e1:x.tdiv b.nx.length<=x:=Ec _ hx.1;have e2:(x.tdiv b.nx.length).tdiv a.nx.length<=x.tdiv b.nx.length:=Ec _ p.1;omega
 have wq1:IntKind.i64.wrap (x.tdiv b.nx.length)=x.tdiv b.nx.length:=by
  have e1:x.tdiv b.nx.length<=x:=Ec _ hx.1;exact dM om om
 have wq2:IntKind.i64.wrap ((x.tdiv b.nx.length).tdiv a.nx.length)=(x.tdiv b.nx.length).tdiv a.nx.length:=dM om om;have kc_p:=fun {R:Type} {n id:Nat} {hq:H} {k:KA R} (hn:4<=n) (hid:hq[id]? =some (.arr (ints o) 1 0))=> @aSU R L n id hq k hn hL P hP hv _ c ⟨hc0,hc6⟩ p2.1 v1 o ho hid;have wl:=aDy (l:=c) (v:=(x.tdiv b.nx.length).tdiv a.nx.length) h3 hs;have wr:=aRY (l:=c) hs ⟨hc0,hc6⟩ p2.1;unfold nxBk tabP parP;generalize hga:goI a.al a.nx ((x.tdiv b.nx.length).tmod a.nx.length) c=g1 at *;generalize hgb:goI b.al b.nx (x.tmod b.nx.length) c=g2 at *;generalize pnx (P.reverse.map (sysI c)) ((x.tdiv b.nx.length).tdiv a.nx.length)=w at *;have loop_a:=fun {R n k} hn=> @aO6 R L n 1 hn a.nx.length b.nx.length (g1*b.nx.length+g2) ⟨by omega,by omega⟩ ⟨by omega,by omega⟩ om k w.length o.length L o w (o++w).length rfl rfl om rfl (by rw[Ai];omega) (fun x hx=>by have:=wr x hx;omega);obtain⟨x0,x1⟩:=hx;obtain⟨p0,p1⟩:=p;obtain⟨q0,q1⟩:=q;obtain⟨r0,r1⟩:=r;clear ha hb sa sb wa wb x1 hP hv hs hga hgb wr p1;simp only[Ai]at loop_a kc_p;obtain _|n:=n;omega
 simp-implicitDefEqProofs (maxSteps:=9^7) (disch:=try exact Dz) only[↓DN,↓kAsg,↓kRet,UP,simprocAttr,hla,hlb,hta,htb,wq1,wq2,q0,q1,r0,r1,↓kc_p,↓loop_a,Bj,Br,Ar,SL,C4,Tryz.f149]
def glBk(a b:Aut)(x:Int):Bool:=a.ac.getD ((x.tdiv b.nx.length).tmod a.nx.length).toNat false&& !b.ac.getD (x.tmod b.nx.length).toNat false
theorem SK{L n:Nat}(hn:1<=n){P:List Sys}(hv:bQ P=true){a b:Aut}(ha:AOK a)(hb:AOK b){rs:List D}{x:Int}(hx:inBk P a b x):
  aA env L n 151 [nI x,.d (.iptr [.iptr [.int .i64 a.al,.ivs a.nx.length rs,.ivs a.ac.length (aK a.ac)]]),.d (.iptr [.int .i64 b.nx.length]),.d (.iptr [.int .i64 a.nx.length]),.d (autP b)] []=some (.d (.bool (glBk a b x)),[]):=by
 obtain⟨h3,h1,hs⟩:=dH hv;obtain⟨sz0,sz1⟩:=CK h3 hs;obtain⟨sa,wa,a1,a2,a3⟩:=eX ha;obtain⟨sb,wb,b1,b2,b3⟩:=eX hb;obtain⟨p,q⟩:=P8 (na:=cI P*a.nx.length) (nb:=b.nx.length) om hx.1 hx.2;obtain⟨p2,r⟩:=P8 (na:=cI P) (nb:=a.nx.length) om p.1 p.2
 have hprod:(a.nx.length:Int)*b.nx.length<=144:=by
  have h1:(a.nx.length:Int)*b.nx.length<=12*b.nx.length:=Cm om om;omega
 have xs:x<=4294967296:=by
  have t1:cI P*a.nx.length*b.nx.length<=4096*144:=by
   rw[Int.mul_assoc];exact Cy (Cm sz1 (Cd om om)) (Dn hprod om)
  have:=hx.2;omega
 have hb0:¬(b.nx.length:Int)=0:=om;have ha0:¬(a.nx.length:Int)=0:=om
 have wq1:IntKind.i64.wrap (x.tdiv b.nx.length)=x.tdiv b.nx.length:=by
  have e1:x.tdiv b.nx.length<=x:=Ec _ hx.1;exact dM om om
 have e1:((x.tdiv b.nx.length).tmod a.nx.length).toNat<a.ac.length:=om;have e2:(x.tmod b.nx.length).toNat<b.ac.length:=om;have e3:(x.tdiv b.nx.length).tmod a.nx.length<(a.ac.length:Int):=om;have e4:x.tmod b.nx.length<(b.ac.length:Int):=om;obtain⟨x0,x1⟩:=hx;obtain⟨p0,p1⟩:=p;obtain⟨q0,q1⟩:=q;obtain⟨r0,r1⟩:=r;unfold glBk autP;clear ha hb sa sb wa wb x1 hv hs p1
 cases hA:a.ac.getD ((x.tdiv b.nx.length).tmod a.nx.length).toNat false
 ·obtain _|n:=n;omega
  simp-implicitDefEqProofs (maxSteps:=9^7) (disch:=try exact Dz) only[↓DN,↓kAsg,↓kRet,UP,simprocAttr,LA,hA,wq1,e3,r0,e1,AL,r7,Tryz.f151]
 ·obtain _|n:=n;omega
  simp-implicitDefEqProofs (maxSteps:=9^7) (disch:=try exact Dz) only[↓DN,↓kAsg,↓kRet,UP,simprocAttr,LA,hA,wq1,e3,q0,r0,e4,e1,e2,AL,r7,Tryz.f151]
section
variable{R:Type}{L n:Nat}
def cV:Aut:=⟨0,[[]],[true]⟩
theorem aPw(hn:1<=n){k:KE R}:∀(j:Nat) (i:Int) (m:Nat) (t:List Int) (h0:0<=i) (hi:i+j=6) (hm:j<m) (ht:t.length=6),
  aS env (aA env L n) L 0 [] Bz1 (eU 1) Bz28 m (Y2 (.d .nils::.sl 0 0 0 1::.d (.ivs 0 [])::nI 0::.d .nils::Y8 (Y2 (Y1 (.d (.ivs 1 [.nils])::nI 1::nI 0::Y4 (nI i::Y16 (Y8 (Y4 ([]))))))))) [.arr (ints t) 6 0] k
  =k (.exit 2) (Y2 (.d .nils::.sl 0 0 0 1::.d (.ivs 0 [])::nI 0::.d .nils::Y8 (Y2 (Y1 (.d (.ivs 1 [.nils])::nI 1::nI 0::Y4 (nI 6::Y16 (Y8 (Y4 ([]))))))))) [.arr (ints (m4 0 j i.toNat t)) 6 0]:=by
 intro j
 induction j with
 |zero=>
  intro i m t h0 hi hm ht;obtain _|m:=m;omega;obtain rfl:i=6:=om
  simp-implicitDefEqProofs (maxSteps:=9^7) (disch:=try exact Dz) only[↓DN,↓kRet,UP,simprocAttr,Ak,o6,pB,Tryz.f89]<;>rfl
 |succ j ih=>
  intro i m t h0 hi hm ht;obtain _|m:=m;omega;have hc:i<6:=om;have hk:i.toNat<t.length:=om;have e1:(i+1).toNat=i.toNat+1:=om
  simp-implicitDefEqProofs (maxSteps:=9^7) (disch:=try exact Dz) only[↓DN,↓kRet,UP,simprocAttr,hc,Cf,Nat.zero_mul,↓GR,↓ih,o6,pB,Tryz.f89];rw[e1];simp only[m4,Nat.zero_mul,Ag,Aw]
theorem aOK(hn:1<=n){k:KE R}{m:Nat}{t:List Int}(hm:0<m):
  aS env (aA env L n) L 0 [] Bz1 (eU 2) Bz23 m (Y2 (.d .nils::.sl 0 0 0 1::.d (.ivs 0 [])::nI 0::.d .nils::Y8 (Y2 (Y1 (.d (.ivs 1 [.nils])::nI 1::nI 0::Y4 (nI 6::Y8 (Y1 (.d (.ivs 0 [])::nI 0::nI 0::Y16 ([]))))))))) [.arr (ints t) 6 0] k
  =k (.exit 4) (Y2 (.d .nils::.sl 0 0 0 1::.d (.ivs 0 [])::nI 0::.d .nils::Y8 (Y2 (Y1 (.d (.ivs 1 [.nils])::nI 1::nI 0::Y4 (nI 6::Y8 (Y1 (.d (.ivs 0 [])::nI 0::nI 0::Y16 ([]))))))))) [.arr (ints t) 6 0]:=by
 obtain _|m:=m;omega
 simp-implicitDefEqProofs (maxSteps:=9^7) (disch:=try exact Dz) only[↓DN,↓kRet,UP,simprocAttr,Ak,wH,vM,Tryz.f89]
theorem aP0(hn:1<=n){k:KE R}{m:Nat}{t:List Int}(hm:0<m):
  aS env (aA env L n) L 0 [] Bz1 (eU 0) Bz20 m (Y2 (.d .nils::.sl 0 0 0 1::.d (.ivs 0 [])::Y8 (Y4 (Y1 (.d (.ivs 1 [.nils])::nI 1::nI 1::Y32 (Y1 ([]))))))) [.arr (ints t) 6 0] k
  =k (.exit 0) (Y2 (.d .nils::.sl 0 0 0 1::.d (.ivs 0 [])::Y8 (Y4 (Y1 (.d (.ivs 1 [.nils])::nI 1::nI 1::Y32 (Y1 ([]))))))) [.arr (ints t) 6 0]:=by
 obtain _|m:=m;omega
 simp-implicitDefEqProofs (maxSteps:=9^7) (disch:=try exact Dz) only[↓DN,↓kRet,UP,simprocAttr,Ak,oF,pD,Tryz.f89]
theorem aOH(hL:2^60<=L)(hn:1<=n){k:KE R}{m:Nat}{t:List Int}(ht:t.length=6)(hm:1<m):
  aS env (aA env L n) L 0 [] Bz1 (eU 0) Bz20 m (Y2 (.d .nils::.sl 0 0 0 1::.d (.ivs 0 [])::Y8 (Y4 (Y1 (.d (.ivs 1 [.nils])::nI 1::nI 0::Y32 (Y1 ([]))))))) [.arr (ints t) 6 0] k
  =k (.exit 0) (Y2 (.d .nils::.sl 0 0 0 1::.d (.ivs 0 [])::Y8 (Y4 (Y1 (.d (.ivs 1 [.nils])::nI 1::nI 1::Y32 (Y1 ([]))))))) [.arr (ints (m4 0 6 0 t)) 6 0]:=by
 obtain _|m:=m;omega;have loop_a1:=fun {R:Type} {k:KE R}=> @aPw R L n hn k 6 0 L t om om om ht;have loop_a2:=fun {R:Type} {k:KE R} {t:List Int}=> @aOK R L n hn k L t om;have loop_a3:=fun {R:Type} {k:KE R} {t:List Int}=> @aP0 R L n hn k m t om;simp only[Cf]at loop_a1
 simp-implicitDefEqProofs (maxSteps:=9^7) (disch:=try exact Dz) only[↓DN,↓kRet,UP,simprocAttr,↓loop_a1,↓loop_a2,↓loop_a3,oF,pD,Tryz.f89]
theorem aD3(hn:3<=n)(hL:2^60<=L):aA env L n 89 [.agg [nI 0,.d (.ivs 1 [.nils]),.d (.ivs 1 [.bool true])]] []=some (.d (.ivs 1 (ints (gJ 0 [[]]))),[]):=by
 have hf:m4 0 6 0 [0,0,0,0,0,0]=[0,0,0,0,0,0]:=dc;have hT:gJ 0 [[]]=[0,0,0,0,0,0]:=dc;have loop_a:=fun {R:Type} {n:Nat} (hn:1<=n) {k:KE R}=> @aOH R L n hL hn k L [0,0,0,0,0,0] rfl om;have hl0:aC 0=[]:=dc;rw[hf]at loop_a;rw[hT];clear hf hT;obtain _|n:=n;omega
 simp-implicitDefEqProofs (maxSteps:=9^7) (disch:=try exact Dz) only[↓DN,↓kAsg,↓kRet,UP,simprocAttr,↓gI,hl0,gY,↓aKE,↓loop_a,WP,MR,Tryz.f89]
end
def parA(P:List Sys):Int:=P.foldl (fun z s=>iOr .i64 z s.al) 0
theorem aGJ{R:Type}{L n:Nat}(hn:1<=n){P:List Sys}(hP:P.length<=3){k:KE R}:∀(j i m:Nat) (z:Int) (hi:i+j=P.length) (hm:j<m),
  aS env (aA env L n) L 0 [] Bz52 (sA 0) (U2 (Z2 (U4 (U1 (Z2 (Z1 (U8 (U1 ([]))))))))) m (Y2 (nI 0::nI z::Y4 (Y1 (.d (.ivs P.length (sysD P))::nI (P.length)::nI i::Y8 (Y1 ([])))))) [] k
  =k (.exit 0) (Y2 (nI 0::nI ((P.drop i).foldl (fun z s=>iOr .i64 z s.al) z)::Y4 (Y1 (.d (.ivs P.length (sysD P))::nI (P.length)::nI (P.length)::Y8 (Y1 ([])))))) []:=by
 intro j
 induction j with
 |zero=>
  intro i m z hi hm;obtain _|m:=m;omega;obtain rfl:i=P.length:=om;rw[Bl]
  simp-implicitDefEqProofs (maxSteps:=9^7) (disch:=try exact Dz) only[↓DN,↓kRet,UP,simprocAttr,Ak,vD,qD,Tryz.f25]<;>rfl
 |succ j ih=>
  intro i m z hi hm;obtain _|m:=m;omega;have hk:i<P.length:=om;have hc:(i:Int)<P.length:=om;have hi0:(0:Int)<=i:=om;have g:=tG hk;have ih':=ih (i+1) m (iOr .i64 z (P.getD i default).al) om om;rw[cs1 i]at ih';rw[bP hk (d:=default),Co];clear ih;generalize P.drop (i+1)=w at *;generalize P.getD i default=s at *
  simp-implicitDefEqProofs (maxSteps:=9^7) (disch:=try exact Dz) only[↓DN,↓kRet,UP,simprocAttr,NE,Ar,Bj,hc,hi0,g,↓ih',vD,qD,Tryz.f25]
theorem CA{L n:Nat}(hn:12<=n)(P:List Sys)(hP:cW P)(hL:2^60<=L):aA env L n 25 [.d (.ivs P.length (sysD P))] []=some (nI (if bQ P=true then parA P else -1),[]):=by
 cases hv:bQ P
 ·obtain _|n:=n;omega
  simp-implicitDefEqProofs (maxSteps:=9^7) (disch:=try exact Dz) only[↓DN,↓kAsg,↓kRet,UP,simprocAttr,↓lO,hv,C5,uB,Tryz.f25]
 ·obtain⟨h3,h1,hs⟩:=dH hv;have loop_a:=fun {R n k} hn=> @aGJ R L n hn P h3 k P.length 0 L 0 om om;rw[Ax]at loop_a;simp only[Aw]at loop_a;unfold parA;clear hs;obtain _|n:=n;omega
  simp-implicitDefEqProofs (maxSteps:=9^7) (disch:=try exact Dz) only[↓DN,↓kAsg,↓kRet,UP,simprocAttr,↓lO,hv,↓loop_a,C5,uB,Tryz.f25]
theorem eT:type_of% fun {L} P hP hL=>ks fun hn=> @CA L _ hn P hP hL:=fun {L} P hP hL=>ks fun hn=> @CA L _ hn P hP hL


def t3(e:Edge):Int×Int×Int:=(e.fr,e.lt,e.to)
def e3(x:Int×Int×Int):Edge:=⟨x.1,x.2.1,x.2.2⟩
def leE(a b:Edge):Bool:=!cK b a
def kH(l:List Edge):List Edge:=l.mergeSort leE
theorem aRl(a b:Edge):le3 (t3 a) (t3 b)=leE a b:=by
 unfold le3 leE;rw[<-aRv];rfl
theorem aJY(l:List Edge):kE (l.map t3)=aJ l:=by
 induction l with
 |nil=>rfl
 |cons e l ih=>simp only[Af,kE,t3,ih,f8]
theorem aLM(l:List Edge):trip (aJ l)=some (l.map t3):=by
 induction l with
 |nil=>rfl
 |cons e l ih=>simp only[f8,trip,ih,Ay,Af,t3]
theorem aLN(l:List Edge):kE ((l.map t3).mergeSort le3)=aJ (kH l):=by
 rw[<-aJY,kH,List.map_mergeSort (s:=le3) fun a _ b _=>(aRl a b).symm]
theorem aOe(a b c:Edge)(h1:leE a b=true)(h2:leE b c=true):leE a c=true:=by
 unfold leE at *;simp only[Dy]at *
 cases h:cK c a with
 |false=>rfl
 |true=>
  cases h3:cK a b with
  |true=>have:=EM h h3;rw[this]at h2;cases h2
  |false=>
   have e:=R0 h1 h3;subst e;rw[h]at h2;cases h2
theorem aMw(a b:Edge):(leE a b||leE b a)=true:=by
 unfold leE
 cases h1:cK b a with
 |false=>rfl
 |true=>rw[aGd h1];rfl
theorem yK(l:List Edge):(kH l).Perm l:=List.mergeSort_perm l leE
theorem aHT(l:List Edge):(kH l).Pairwise fun a b=>leE a b=true:=List.pairwise_mergeSort aOe aMw l
theorem aFQ(l:List Edge):(kH l).length=l.length:=(yK l).length_eq
def gP(x y:Int)(e:Edge):Edge:=⟨e.fr,cH e.lt x y,e.to⟩
theorem aQ3{α β:Type}{f:α->β}{l:List α}{o:List β}{i:Nat}{d:α}(h:i<l.length):o++(l.drop i).map f=(o++[f (l.getD i d)])++(l.drop (i+1)).map f:=by
 rw[bP h (d:=d)];simp
theorem aKd{l:List Edge}{e:Nat}(he:e=0/\l=[]\/e=3)(hl:l.length<=4294967296):HM 76 [.sl 0 0 0 l.length,.clo 76 []] [.arr (aJ l) e 0]=some (.tup [],[.arr (aJ (kH l)) e 0]):=by
 have h1:True/\True/\True/\(l.length=0\/e=3)/\l.length*3<=(aJ l).length/\l.length<=bI:=by
  refine⟨trivial,trivial,trivial,?_,by rw[vJ];omega,by unfold bI;omega⟩
  rcases he with⟨_,rfl⟩|rfl
  ·exact .inl rfl
  ·exact .inr rfl
 have h2:trip ((aJ l).take (l.length*3))=some (l.map t3):=by rw[kG (Ad _),aLM]
 have h3:(aJ l).drop (l.length*3)=[]:=by rw[JE,Bl];rfl
 simp only[HM,Ch];rw[if_pos h1];simp only[h2,h3,aLN,Ah,Ce]
theorem wJ{R:Type}{L n id e:Nat}{hq:H}{k:KA R}(hn:1<=n)(l:List Edge)(hi:hq[id]? =some (.arr (aJ l) e 0))(he:e=0/\l=[]\/e=3)(hl:l.length<=4294967296):
  aW env (aA env L n) hq 88 [.sl id 0 0 l.length,.clo 76 []] k=k (.tup []) (hq.set id (.arr (aJ (kH l)) e 0)):=by
 obtain _|n:=n;omega;exact TG hi (by simp[idsL,idsA]) fP (by simp[idsA,idsL]) (by rw[uD];simpa [aE,mapA,aH]using aKd he hl)
theorem YD{R:Type}{L n:Nat}(hn:3<=n)(hL:2^60<=L){al st x y:Int}{l:List Edge}(hl:l.length<=4294967296){k:KE R}:∀(j:Nat) (i:Int) (m:Nat) (o:List Edge) (len e:Nat) (h0:0<=i) (hi:i+j=l.length) (hm:j<m) (ho:o.length+j<=4294967296) (hlen:len=o.length) (he:e=0\/e=3),
  aS env (aA env L n) L 0 [] Bz7 (qS 0) Bz21 m (Y1 (nI x::nI y::Y2 (Y1 (.ptr 0 0 0::.d (.bool false)::.ptr 1 0 0::Y16 (Y8 (Y1 (.d (.ivs l.length (aJ l))::nI (l.length)::nI i::Y16 (Y4 (Y2 (Y1 ([]))))))))))) [.box [nI 0,nI 0,.sl 2 0 0 0],.box [nI al,nI st,.sl 3 0 0 len],.arr [] 0 0,.arr (aJ o) e 0] k
  =k (.exit 0) (Y1 (nI x::nI y::Y2 (Y1 (.ptr 0 0 0::.d (.bool false)::.ptr 1 0 0::Y16 (Y8 (Y1 (.d (.ivs l.length (aJ l))::nI (l.length)::nI (l.length)::Y16 (Y4 (Y2 (Y1 ([]))))))))))) [.box [nI 0,nI 0,.sl 2 0 0 0],.box [nI al,nI st,.sl 3 0 0 (o.length+j)],.arr [] 0 0,.arr (aJ (o++(l.drop i.toNat).map (gP x y))) (if j=0 then e else 3) 0]:=by
 intro j
 induction j with
 |zero=>
  intro i m o len e h0 hi hm ho hlen he;obtain _|m:=m;omega;obtain rfl:i=l.length:=om
  simp-implicitDefEqProofs (maxSteps:=9^7) (disch:=try exact Dz) only[↓DN,↓kRet,UP,simprocAttr,Ak,AV,wR,Tryz.f33];simp only[Bl,Al,Ah,hlen]
 |succ j ih=>
  intro i m o len e h0 hi hm ho hlen he;obtain _|m:=m;omega;subst hlen;have hc:i<l.length:=om;have hk:i.toNat<l.length:=om;have ho2:o.length+1<=4294967296:=om;have e1:(i+1).toNat=i.toNat+1:=om
  simp-implicitDefEqProofs (maxSteps:=9^7) (disch:=try exact Dz) only[↓DN,↓kRet,UP,simprocAttr,↓yZ,LE,hc,↓ih,AV,wR,Tryz.f33];rw[aQ3 hk (d:=default),e1];have e2:o.length+1+j=o.length+(j+1):=om;have e3:(if j=0 then 3 else 3)=(if j+1=0 then e else 3):=sm;simp only[e2,e3]<;>rfl
def eL(l:List Edge):Nat:=if l.length=0 then 0 else 3
theorem NB{R:Type}{L n m:Nat}(hn:3<=n)(hL:2^60<=L){al st x y:Int}{l:List Edge}(hl:l.length<=4294967296){k:KE R}(hm:l.length<m):
  aS env (aA env L n) L 0 [] Bz7 (qS 0) Bz21 m (Y1 (nI x::nI y::Y2 (Y1 (.ptr 0 0 0::.d (.bool false)::.ptr 1 0 0::Y16 (Y8 (Y1 (.d (.ivs l.length (aJ l))::nI (l.length)::nI 0::Y16 (Y4 (Y2 (Y1 ([]))))))))))) [.box [nI 0,nI 0,.sl 2 0 0 0],.box [nI al,nI st,.sl 3 0 0 0],.arr [] 0 0,.arr [] 0 0] k
  =k (.exit 0) (Y1 (nI x::nI y::Y2 (Y1 (.ptr 0 0 0::.d (.bool false)::.ptr 1 0 0::Y16 (Y8 (Y1 (.d (.ivs l.length (aJ l))::nI (l.length)::nI (l.length)::Y16 (Y4 (Y2 (Y1 ([]))))))))))) [.box [nI 0,nI 0,.sl 2 0 0 0],.box [nI al,nI st,.sl 3 0 0 (l.map (gP x y)).length],.arr [] 0 0,.arr (aJ (l.map (gP x y))) (eL (l.map (gP x y))) 0]:=by
 have h:=YD (R:=R) (L:=L) hn hL hl (al:=al) (st:=st) (x:=x) (y:=y) (k:=k) l.length 0 m [] 0 0 om om hm (by simpa using hl) rfl (.inl rfl);unfold eL;rw[Ar]
 simpa only[mF,Cf,Ax,Ab,Ag,Am]using h
theorem aI8(l:List Edge):eL l=0/\l=[]\/eL l=3:=by
 unfold eL
 by_cases h:l.length=0
 ·exact .inl ⟨if_pos h,Bs.1 h⟩
 ·exact .inr (if_neg h)
theorem aPT{R:Type}{L n id:Nat}{hq:H}{k:KA R}(hn:1<=n)(l:List Edge)(hi:hq[id]? =some (.arr (aJ l) (eL l) 0))(hl:l.length<=4294967296):
  aW env (aA env L n) hq 88 [.sl id 0 0 l.length,.clo 76 []] k=k (.tup []) (hq.set id (.arr (aJ (kH l)) (eL l) 0)):=
 wJ hn l hi (aI8 l) hl

theorem aOG{s:Sys}(h1:bH s.al=true)(h2:1<=s.st)(h3:s.st<=16)(he:∀e∈s.es,cD s.al s.st e=true)(hs:sL s.es):bK s=true:=by
 unfold bK;simp only[Aj,decide_eq_true_eq];refine⟨⟨⟨h1,h2⟩,h3⟩,?_⟩;rw[Em,jP];intro k _ hk;have hk':k<s.es.length:=om;unfold kJ;have a:=he (s.es.getD k default) (by rw[Aa,Ae hk'];exact Ba hk');rw[a]
 by_cases h0:0<k
 ·have b:=aMc hs (i:=k-1) (j:=k) om hk';rw[b];simp
 ·simp[h0]
theorem aR9:∀(a:Fin 64) (l m:Fin 6),bG (iOr .i64 (a.val:Int) (bitI (l.val:Int))) (m.val:Int)=(bG (a.val:Int) (m.val:Int)||decide (m.val=l.val)):=by decide+kernel
theorem aQg:∀(a:Fin 64) (l:Fin 6),0<=iOr .i64 (a.val:Int) (bitI (l.val:Int))/\iOr .i64 (a.val:Int) (bitI (l.val:Int))<=63:=by decide+kernel
theorem aSw{a l m:Int}(ha:bH a=true)(hl:aT l=true)(hm:aT m=true):bG (iOr .i64 a (bitI l)) m=(bG a m||decide (m=l)):=by
 unfold bH at ha;simp only[decide_eq_true_eq]at ha;have hl:=cU.1 hl;have hm:=cU.1 hm;have h:=aR9 ⟨a.toNat,by omega⟩ ⟨l.toNat,by omega⟩ ⟨m.toNat,by omega⟩;simp only[Cn ha.1,Cn hl.1,Cn hm.1]at h;rw[h]
 congr 1
 have:(m.toNat=l.toNat)↔m=l:=om;simp only[this]
theorem aPQ{a l:Int}(ha:bH a=true)(hl:aT l=true):bH (iOr .i64 a (bitI l))=true:=by
 unfold bH at ha|-;simp only[decide_eq_true_eq]at ha|-;have hl:=cU.1 hl;have h:=aQg ⟨a.toNat,by omega⟩ ⟨l.toNat,by omega⟩
 simpa only[Cn ha.1,Cn hl.1]using h
def aG0(ls:List Int):Int:=ls.foldl (fun o l=>iOr .i64 o (bitI l)) 0
theorem aCt{ls:List Int}:∀ {a:Int},bH a=true->(∀l∈ls,aT l=true)->bH (ls.foldl (fun o l=>iOr .i64 o (bitI l)) a)=true/\∀m,aT m=true->bG (ls.foldl (fun o l=>iOr .i64 o (bitI l)) a) m=(bG a m||ls.any (fun l=>decide (m=l))):=by
 induction ls with
 |nil=>intro a ha _;exact⟨ha,fun m _=>by simp⟩
 |cons l ls ih=>
  intro a ha hl;have h1:=aPQ ha (hl l sm);obtain⟨h2,h3⟩:=ih h1 (fun x hx=>hl x (by simp[hx]));refine⟨h2,fun m hm=> ?_⟩;rw[Co,h3 m hm,aSw ha (hl l sm) hm,List.any_cons,Bool.or_assoc]
theorem aOW:∀m:Int,aT m=true->bG 0 m=false:=by
 intro m _;unfold bG;simp
theorem aJI{ls:List Int}(h:∀l∈ls,aT l=true):bH (aG0 ls)=true:=(aCt (a:=0) rfl h).1
theorem aN2{ls:List Int}(h:∀l∈ls,aT l=true){m:Int}(hm:aT m=true):bG (aG0 ls) m=ls.any (fun l=>decide (m=l)):=by
 have:=(aCt (a:=0) rfl h).2 m hm;rw[aOW m hm,Bool.false_or]at this;exact this
theorem aSC{m:Int}(h:aT m=true):m∈[0,1,2,3,4,(5:Int)]:=by
 have:=cU.1 h
 simp;omega
theorem QE{a m:Int}:m∈aC a↔aT m=true/\bG a m=true:=by
 unfold aC;rw[Cz]
 constructor
 ·rintro⟨h1,h2⟩;refine⟨cU.2 ?_,h2⟩;simp at h1;omega
 ·rintro⟨h1,h2⟩;exact⟨aSC h1,h2⟩
theorem MK{l x y:Int}(hl:aT l=true)(hx:aT x=true)(hy:aT y=true):aT (cH l x y)=true:=by
 have h1:=cU.1 hl;have h2:=cU.1 hx;have h3:=cU.1 hy;exact cU.2 ⟨LM h1.1 h2.1 h3.1,aAw h1.2 h2.2 h3.2⟩
theorem ML{l x y:Int}:cH (cH l x y) x y=l:=by
 unfold cH
 by_cases h1:l=x
 ·by_cases h2:y=x<;>simp[h1,h2]
 ·by_cases h2:l=y
  ·simp[h2]
  ·simp[h1,h2]
theorem L5{a x y:Int}(ha:bH a=true)(hx:aT x=true)(hy:aT y=true):bO a x y=aG0 ((aC a).map fun l=>cH l x y):=by
 unfold bO aG0;simp only[ha,hx,hy,Bx,if_true,List.foldl_map]<;>rfl
theorem aFr{a x y:Int}(hx:aT x=true)(hy:aT y=true):∀l∈(aC a).map fun l=>cH l x y,aT l=true:=by
 intro l hl;obtain⟨k,hk,rfl⟩:=Bf.1 hl;exact MK (QE.1 hk).1 hx hy
theorem qO{a x y:Int}(ha:bH a=true)(hx:aT x=true)(hy:aT y=true):bH (bO a x y)=true:=by
 rw[L5 ha hx hy];exact aJI (aFr hx hy)
theorem pK{a x y m:Int}(ha:bH a=true)(hx:aT x=true)(hy:aT y=true)(hm:aT m=true):bG (bO a x y) m=bG a (cH m x y):=by
 rw[L5 ha hx hy,aN2 (aFr hx hy) hm,Bool.eq_iff_iff,List.any_eq_true]
 constructor
 ·rintro⟨l,hl,hd⟩;obtain⟨k,hk,rfl⟩:=Bf.1 hl;simp only[decide_eq_true_eq]at hd;rw[hd,ML];exact(QE.1 hk).2
 ·intro hb;exact⟨m,Bf.2 ⟨cH m x y,QE.2 ⟨MK hm hx hy,hb⟩,ML⟩,by simp⟩
theorem aNH{α:Type}{p:α->Bool}{l:List α}{i:Nat}{d:α}(h:i<l.length):(l.drop i).filter p=(if p (l.getD i d)then l.getD i d::(l.drop (i+1)).filter p else(l.drop (i+1)).filter p):=by
 rw[Da h,Aa,Ae h,List.filter_cons];rfl
theorem aBt{R:Type}{L n:Nat}(hn:1<=n){s:List UInt8}{a:Int}(hs:s.length<=60000){k:KE R}:∀(i:Int) (m:Nat) (o:List UInt8) (len:Nat) (h0:0<=i) (hi:i<=s.length) (hm:(s.length:Int)-i<m) (hl:len=o.length) (hol:o.length<=i.toNat),
  aS env (aA env L n) L 0 (W4 (W1 [2])) Bz69 (D6 0) (Z2 (U2 (Z2 (U2 (Z2 (U16 ([]))))))) m (.d (.str s)::nI a::Y2 (.d (.str ([]))::.sl 0 0 0 len::Y2 (nI (s.length)::nI i::Y16 ([])))) [.arr (a7 o) 1 0] k
  =k (.exit 0) (.d (.str s)::nI a::Y2 (.d (.str ([]))::.sl 0 0 0 (o++(s.drop i.toNat).filter (inB a)).length::Y2 (nI (s.length)::nI (s.length)::Y16 ([])))) [.arr (a7 (o++(s.drop i.toNat).filter (inB a))) 1 0]:=by
 intro i m o len h0 hi hm hl hol;obtain⟨j,hj⟩:∃j:Nat,(j:Int)=(s.length:Int)-i:=⟨((s.length:Int)-i).toNat,by omega⟩
 induction j generalizing i m o len with
 |zero=>
  obtain _|m:=m;omega;obtain rfl:i=s.length:=om
  simp-implicitDefEqProofs (maxSteps:=9^7) (disch:=try exact Dz) only[↓DN,↓kRet,UP,simprocAttr,Ak,uF,tE,Tryz.f93];subst hl;simp only[Bl,List.filter_nil,Ah,Ab,Bm]
 |succ j ih=>
  obtain _|m:=m;omega;have hc:i<s.length:=om;have hk:i.toNat<s.length:=om;have e1:(i+1).toNat=i.toNat+1:=om;rw[aNH hk (d:=0)]
  cases hb:inB a (s.getD i.toNat 0)with
  |true=>
   have hap:(o++[s.getD i.toNat 0]).length=o.length+1:=sm
   simp-implicitDefEqProofs (maxSteps:=9^7) (disch:=try exact Dz) only[↓DN,↓kRet,UP,simprocAttr,↓jZ,↓jA,hc,aC9,hb,↓ih,uF,tE,Tryz.f93];simp only[e1,Ao,As,Am,Dd,Ck 1]
  |false=>
   simp-implicitDefEqProofs (maxSteps:=9^7) (disch:=try exact Dz) only[↓DN,↓kRet,UP,simprocAttr,↓jZ,↓jA,hc,aC9,hb,↓ih,uF,tE,Tryz.f93];simp only[e1]
theorem QN{L n:Nat}(hn:2<=n)(s:List UInt8)(a:Int)(hs:s.length<=60000)(hL:2^60<=L):aA env L n 93 [.d (.str s),nI a] []=some (.d (.str (s.filter (inB a))),[]):=by
 obtain _|n:=n;omega
 simp-implicitDefEqProofs (maxSteps:=9^7) (disch:=try exact Dz) only[↓DN,↓kAsg,↓kRet,UP,simprocAttr,↓aBt,aML,↓sY,aGi,UT,Tryz.f93]
theorem RG:type_of% fun {L} s a hs hL=>ks fun hn=> @QN L _ hn s a hs hL:=fun {L} s a hs hL=>ks fun hn=> @QN L _ hn s a hs hL
theorem aLT{a b:Edge}(h:leE a b=true)(hne:a≠b):cK a b=true:=by
 unfold leE at h
 cases hb:cK a b with
 |true=>rfl
 |false=>
  have h2:cK b a=false:=by simpa using h
  exact absurd (R0 hb h2) hne
theorem aJN(x y:Int)(e:Edge):gP x y (gP x y e)=e:=by
 unfold gP;simp only[uI]
theorem TW{l:List Edge}(h:sL l):l.Nodup:=by
 refine List.Pairwise.imp ?_ h;intro a b hab e;subst e;rw[NN]at hab;cases hab
theorem aKm{l:List Edge}{x y:Int}(h:sL l):sL (kH (l.map (gP x y))):=by
 have hn:(l.map (gP x y)).Nodup:=by
  refine List.pairwise_map.2 ((TW h).imp fun {a b} hne hab=>hne ?_);have:=congrArg (gP x y) hab
  simpa only[aJN]using this
 have hn2:(kH (l.map (gP x y))).Nodup:=(yK _).nodup_iff.2 hn;exact List.Pairwise.imp₂ (fun a b hab hne=>aLT hab hne) (aHT _) hn2
theorem y3{l x y:Int}(hl:aT l=true)(hx:aT x=true)(hy:aT y=true):aT (cH l x y)=true:=by
 unfold cH
 split
 ·exact hy
 ·split
  ·exact hx
  ·exact hl
theorem aMb{al st x y:Int}{l:List Edge}(h:bK ⟨al,st,l⟩=true)(hx:aT x=true)(hy:aT y=true):bK ⟨bO al x y,st,kH (l.map (gP x y))⟩=true:=by
 have h':=h;unfold bK at h';simp only[Aj,decide_eq_true_eq]at h';refine aOG (qO h'.1.1.1 hx hy) h'.1.1.2 h'.1.2 (fun e he=> ?_) (aKm (UQ h));obtain⟨e0,he0,rfl⟩:=Bf.1 ((yK _).mem_iff.1 he);have h1:=F5 h he0;unfold cD at h1|-;simp only[Aj,decide_eq_true_eq]at h1|-;have hl:aT e0.lt=true:=by unfold aT;simp;omega
 have hl2:=y3 hl hx hy;have hl3:=hl2;unfold aT at hl3;simp only[decide_eq_true_eq]at hl3;refine⟨⟨⟨⟨⟨⟨h1.1.1.1.1.1.1,h1.1.1.1.1.1.2⟩,h1.1.1.1.1.2⟩,h1.1.1.1.2⟩,?_⟩,?_⟩,?_⟩
 ·exact hl3.1
 ·exact hl3.2
 ·show bG (bO al x y) (cH e0.lt x y)=true;rw[pK h'.1.1.1 hx hy hl2,uI];exact h1.2
section
theorem WQ:AOK cV:=by
 show d9 0 [[]] [true]=true
 decide
def brkG(P:List Sys)(b:Aut):List Int×Bool:=QK (nxBk P cV b) (glBk cV b) (aC (parA P)) [0] (cI P*b.nx.length).toNat
theorem aOg{a b:Int}(ha:bH a=true)(hb:bH b=true):bH (iOr .i64 a b)=true:=by
 unfold bH at *;simp only[decide_eq_true_eq]at *;obtain⟨x,rfl⟩:∃x:Nat,a=x:=⟨a.toNat,by omega⟩
 obtain⟨y,rfl⟩:∃y:Nat,b=y:=⟨b.toNat,by omega⟩
 rw[XB om om];have:x|||y<2^6:=Nat.or_lt_two_pow om om;omega
theorem aFn:∀ {P:List Sys} {z:Int},bH z=true->(∀s∈P,bK s=true)->bH (P.foldl (fun z s=>iOr .i64 z s.al) z)=true
 | [],_,h,_=>h
 |s::P,z,h,hs=>by
  rw[Co];exact aFn (aOg h (dK.1 (hs s Bg)).1) fun x hx=>hs x (Bc _ hx)
theorem P0{P:List Sys}(hv:bQ P=true):0<=parA P/\parA P<=63:=by
 obtain⟨_,_,hs⟩:=dH hv;have:=aFn (z:=0) dc hs;unfold bH at this;unfold parA
 simpa using this
theorem aIQ:∀(zs:List Int) (v:Int),(∀z∈zs,0<z)->0<=v->∀i,i<zs.length->0<=(decR zs v).getD i 0/\(decR zs v).getD i 0<zs.getD i 0
 | [],_,_,_,i,hi=>by simp at hi
 |z::zs,v,hz,hv,0,_=>by
  have h:=hz z Bg;exact j0 hv h
 |z::zs,v,hz,hv,i+1,hi=>by
  have h:=hz z Bg;exact aIQ zs (v.tdiv z) (fun y hy=>hz y (Bc _ hy)) (Cl hv om) i (by simpa using hi)
theorem aPW{zs:List Int}{v:Int}(hz:∀z∈zs,0<z)(hv:0<=v){i:Nat}(hi:i<zs.length):0<=(decN zs v).getD i 0/\(decN zs v).getD i 0<zs.getD i 0:=by
 have hl:(decR zs.reverse v).length=zs.length:=by rw[PZ,List.length_reverse]
 have h:=aIQ zs.reverse v (fun z h=>hz z (Cq.1 h)) hv (zs.length-1-i) (by rw[List.length_reverse];omega)
 have e1:(decN zs v).getD i 0=(decR zs.reverse v).getD (zs.length-1-i) 0:=by
  unfold decN;rw[Aa,List.getElem?_reverse om,hl,Aa]
 have e2:zs.reverse.getD (zs.length-1-i) 0=zs.getD i 0:=by
  rw[Aa,List.getElem?_reverse om,Aa,show zs.length-1-(zs.length-1-i)=i by omega]
 rw[e1,<-e2];exact h
theorem aME{zs:List Int}{z v:Int}:decN (zs++[z]) v=decN zs (v.tdiv z)++[v.tmod z]:=by
 unfold decN;rw[List.reverse_append];simp[decR]
theorem aEE:∀(zs:List Int),encN zs (List.replicate zs.length 0) 0=0
 | []=>rfl
 |z::zs=>by
  rw[Ac,Dr,encN,Int.zero_mul,Int.zero_add];exact aEE zs
theorem aN6:∀(zs:List Int),QD zs (List.replicate zs.length 0) 0
 | []=>trivial
 |z::zs=>by
  rw[Ac,Dr,QD];refine⟨by rw[Int.zero_mul];omega,by rw[Int.zero_mul];omega,?_⟩;rw[Int.zero_mul,Int.zero_add];exact aN6 zs
theorem aHk{l:List Edge}(h:l.Nodup)(q c:Int):(eV l q c).Nodup:=by
 unfold eV;refine List.pairwise_map.2 ((h.filter _).imp_of_mem fun {a b} ha hb hab e=>hab ?_);have h1:=(Cz.1 ha).2;have h2:=(Cz.1 hb).2;simp only[Aj,decide_eq_true_eq]at h1 h2;obtain⟨a1,a2,a3⟩:=a;obtain⟨b1,b2,b3⟩:=b;simp only at h1 h2 e;obtain⟨rfl,rfl⟩:=h1;obtain⟨rfl,rfl⟩:=h2;rw[e]
theorem aI0{s:Sys}(h:bK s=true){l q:Int}(hq:0<=q/\q<s.st):(choS s l q).length<=16:=by
 obtain⟨_,s1,s2,_,s3⟩:=dK.1 h;have hr:=wB (l:=l) h hq;refine Bk (CY (N:=s.st.toNat) ?_ fun x hx=> ?_) om
 ·unfold choS
  split
  ·exact aHk (TW s3) q l
  ·simp
 ·have:=hr x hx;omega
theorem aKy:∀ {ms:List Mb} {v:Int},(∀m∈ms,0<m.1/\∀q,0<=q->q<m.1->(m.2 q).length<=16)->0<=v->(nxR ms v).length<=16^ms.length
 | [],v,_,_=>by simp[nxR]
 |m::ms,v,h,hv=>by
  obtain⟨hz,hc⟩:=h m Bg;have hr:=j0 hv hz;rw[nxR,PC,Ac,Nat.pow_succ];exact Nat.mul_le_mul (aKy (fun m hm=>h m (Bc _ hm)) (Cl hv om)) (hc _ hr.1 hr.2)
theorem aEw{l:Int}(hl:0<=l/\l<6):∀ {P:List Sys},(∀s∈P,bK s=true)->SameMs (P.map (sysI l)) (P.map (sysS l))
 | [],_=>.nil
 |s::P,h=>.cons (aP4 (h s Bg) hl) (aEw hl fun s hs=>h s (Bc _ hs))
theorem aLD{P:List Sys}{l:Int}:totR (P.reverse.map (sysS l))=cI P:=by
 rw[PW,List.map_reverse,List.foldr_reverse,List.foldl_map];rfl
theorem KM:∀ {P:List Sys} {z:Int},0<z->(∀s∈P,bK s=true)->0<P.foldl (fun z s=>z*s.st) z
 | [],z,hz,_=>hz
 |s::P,z,hz,h=>by
  obtain⟨_,s1,_,_,_⟩:=dK.1 (h s Bg);rw[Co];exact KM (Int.mul_pos hz om) fun s hs=>h s (Bc _ hs)
def nxSp(P:List Sys)(b:Aut)(v l:Int):List Int:=mulN (nxR (P.reverse.map (sysS l)) (v.tdiv b.nx.length)) b.nx.length [goI b.al b.nx (v.tmod b.nx.length) l]
def glSp(b:Aut)(v:Int):Bool:=!b.ac.getD (v.tmod b.nx.length).toNat false
theorem BO{P:List Sys}{b:Aut}(hs:∀s∈P,bK s=true)(hb:AOK b){v l:Int}(hl:0<=l/\l<6)(hv:0<=v):∀m∈nxSp P b v l,0<=m/\m<cI P*b.nx.length:=by
 obtain⟨_,_,b1,b2,_⟩:=eX hb;intro m hm;obtain⟨o,ho,c,hc,rfl⟩:=oP.1 hm;rw[Bi]at hc;have hr:=j0 hv (z:=(b.nx.length:Int)) om;have hg:=GK hb hr.1 hr.2 hl.1 hl.2
 have ho2:=XQ (ms:=P.reverse.map (sysS l)) (fun m hm=>by
  obtain⟨s,hs2,rfl⟩:=Bf.1 hm;have hso:=hs s (Cq.1 hs2);obtain⟨_,s1,s2,_,_⟩:=dK.1 hso;exact⟨by show 0<s.st;omega,fun q h0 h1=>wB hso ⟨h0,h1⟩⟩) (Cl hv om) o ho
 rw[aLD]at ho2;subst hc;exact aKC ho2 hg
theorem aOL{P:List Sys}{b:Aut}(h3:P.length<=3)(hs:∀s∈P,bK s=true){v l:Int}(hv:0<=v):(nxSp P b v l).length<=4096:=by
 unfold nxSp;rw[PC,Ci,Bu];refine Bk (aKy (fun m hm=> ?_) (Cl hv (Int.natCast_nonneg _))) ?_
 ·obtain⟨s,hs2,rfl⟩:=Bf.1 hm;have hso:=hs s (Cq.1 hs2);obtain⟨_,s1,s2,_,_⟩:=dK.1 hso;exact⟨by show 0<s.st;omega,fun q h0 h1=>aI0 hso ⟨h0,h1⟩⟩
 ·rw[Ar,List.length_reverse];exact Bk (Nat.pow_le_pow_right dc h3) dc
theorem O5{P:List Sys}{b:Aut}(hs:∀s∈P,bK s=true){v l:Int}(hl:0<=l/\l<6)(hv:0<=v)(m:Int):m∈nxBk P cV b v l↔m∈nxSp P b v l:=by
 have hg:=GK (l:=l) WQ (q:=0) om (by show(0:Int)<1;omega) hl.1 hl.2
 have hg0:goI cV.al cV.nx 0 l=0:=by
  have h1:((cV.nx.length:Nat):Int)=1:=rfl;omega
 have e1:((cV.nx.length:Nat):Int)=1:=rfl;unfold nxBk nxSp;rw[e1,Int.tdiv_one,Int.tmod_one,hg0,Int.zero_mul,Int.zero_add,oP];simp only[Bf,Bi,Int.mul_one];have key:=fun x=>aHE (x:=x) (v:=v.tdiv b.nx.length) (aEw hl (P:=P.reverse) fun s h=>hs s (Cq.1 h)) (Cl hv (Int.natCast_nonneg _))
 constructor
 ·rintro⟨y,hy,rfl⟩;exact⟨y,(key y).1 (aDZ.1 hy),_,rfl,rfl⟩
 ·rintro⟨y,hy,_,rfl,rfl⟩;exact⟨y,aDZ.2 ((key y).2 hy),rfl⟩
theorem aQi{b:Aut}(v:Int):glBk cV b v=glSp b v:=by
 have e1:((cV.nx.length:Nat):Int)=1:=rfl;unfold glBk glSp;rw[e1,Int.tmod_one];rfl
section
variable{P:List Sys}{b:Aut}(hv:bQ P=true)(hb:AOK b)
include hv hb
theorem XO:0<cI P*b.nx.length:=by
 obtain⟨h3,h1,hs⟩:=dH hv;obtain⟨_,_,b1,b2,_⟩:=eX hb;exact Int.mul_pos (KM om hs) om
theorem aDS:∀v c:Int,0<=v->v<((cI P*b.nx.length).toNat:Nat)->c∈aC (parA P)->∀m∈nxSp P b v c,0<=m/\m<((cI P*b.nx.length).toNat:Nat):=by
 obtain⟨h3,h1,hs⟩:=dH hv;have hpos:=XO hv hb;have et:(((cI P*b.nx.length).toNat:Nat):Int)=cI P*b.nx.length:=Cn om;intro v c h0 _ hc;have:=d7 c hc;rw[et];exact BO hs hb om h0
theorem VU:XJ (Hits (nxSp P b) (aC (parA P)) [0] (glSp b)) (brkG P b):=by
 obtain⟨h3,h1,hs⟩:=dH hv;have hpos:=XO hv hb;have hr:=aDS hv hb
 have hr2:∀v c:Int,0<=v->v<((cI P*b.nx.length).toNat:Nat)->c∈aC (parA P)->∀m∈nxBk P cV b v c,0<=m/\m<((cI P*b.nx.length).toNat:Nat):=by
  intro v c h0 h1 hc m hm;have:=d7 c hc;exact hr v c h0 h1 hc m ((O5 hs om h0 m).1 hm)
 have hI:∀v l m:Int,0<=v->l∈aC (parA P)->m∈nxBk P cV b v l->0<=m:=by
  intro v l m h0 hl hm;have:=d7 l hl;exact(BO hs hb om h0 m ((O5 hs om h0 m).1 hm)).1
 have hh:Hits (nxBk P cV b) (aC (parA P)) [0] (glBk cV b)=Hits (nxSp P b) (aC (parA P)) [0] (glSp b):=by
  funext w
  refine propext (aOy (I:=fun v=>0<=v) hI (fun v l h0 hl m=> ?_) (fun s hs=>by simp at hs;omega) (fun v _=>aQi v) (aK3 hI) w);have:=d7 l hl;exact O5 hs om h0 m
 rw[<-hh];exact aR8 (ZX _) hr2 (fun n hn=>by simp at hn;omega) sm
theorem aOY:aDd (nxSp P b) (glSp b) (aC (parA P)) (cI P*b.nx.length).toNat 0=brkG P b:=by
 have hpos:=XO hv hb;exact aJf (aQc (aDS hv hb) (ZX _) (Cb 0) om) (VU hv hb)
end
end
section
def addU(out:List Int)(x:Int):List Int:=if x∈out then out else out++[x]
def rowU(out r:List Int):List Int:=r.foldl addU out
section
variable(go:Int->Int->Int)(ls:List Int)
structure Bfs(n i:Nat)(done out:List Int)(W:Nat->List Int):Prop where
 pos:0<out.length
 w0:W 0=[]
 o0:out.getD 0 0=0
 nod:out.Nodup
 rng:∀x∈out,0<=x/\x<n
 run:∀k,k<out.length->(W k).foldl go 0=out.getD k 0
 lts:∀k,k<out.length->∀l∈W k,l∈ls
 asc:∀j k,j<k->k<out.length->slt (W j) (W k)
 pre:∀k,0<k->k<out.length->∃p l,p<k/\l∈ls/\W k=W p++[l]/\(p<i\/p=i/\l∈done)
 clo:∀p l,p<out.length->l∈ls->(p<i\/p=i/\l∈done)->∃q,q<out.length/\out.getD q 0=go (out.getD p 0) l/\¬slt (W p++[l]) (W q)
variable{go ls}{n:Nat}
theorem aNo{x y:List Int}(h:slt x y):¬slt y x:=fun k=>aEf x (JN h k)
theorem Bfs.front{i:Nat}{done out rest:List Int}{W:Nat->List Int}{l:Int}(h:Bfs go ls n i done out W)(ha:Asc ls)(hd:ls=done++l::rest)(hi:i<out.length):∀k,k<out.length->slt (W k) (W i++[l]):=by
 intro k hk
 rcases De k with rfl|hk0
 ·rw[h.w0];exact .inl sm
 ·obtain⟨p,m,hp,hm,e,hpi⟩:=h.pre k hk0 hk;rw[e,PQ]
  rcases hpi with hpi|⟨rfl,hmd⟩
  ·exact .inl (h.asc p i hpi hi)
  ·refine .inr ⟨rfl,?_⟩;rw[hd]at ha;exact(List.pairwise_append.1 ha).2.2 m hmd l Bg
theorem aPE(out:List Int)(x:Int):out.length<=(addU out x).length:=by
 unfold addU;split<;>simp
theorem aPe{out:List Int}{x:Int}{i:Nat}(hi:i<out.length):(addU out x).getD i 0=out.getD i 0:=by
 unfold addU
 split
 ·rfl
 ·exact iB hi
theorem Bfs.step{i:Nat}{done out rest:List Int}{W:Nat->List Int}{l v:Int}(h:Bfs go ls n i done out W)(ha:Asc ls)(hd:ls=done++l::rest)(hi:i<out.length)(hv:out.getD i 0=v)(hx:0<=go v l/\go v l<n):
  ∃W',Bfs go ls n i (done++[l]) (addU out (go v l)) W':=by
 have hf:=h.front ha hd hi;have hl:l∈ls:=by rw[hd];simp
 have hmem:∀ {m:Int},m∈done++[l]↔m∈done\/m=l:=by intro m;simp
 unfold addU
 by_cases hin:go v l∈out
 ·rw[if_pos hin];refine⟨W,h.pos,h.w0,h.o0,h.nod,h.rng,h.run,h.lts,h.asc,?_,?_⟩
  ·intro k h0 hk;obtain⟨p,m,a,b,c,d⟩:=h.pre k h0 hk;refine⟨p,m,a,b,c,?_⟩
   rcases d with d|⟨d,e⟩
   ·exact .inl d
   ·exact .inr ⟨d,hmem.2 (.inl e)⟩
  ·intro p m hp hm hpi
   rcases hpi with hpi|⟨rfl,hpi⟩
   ·exact h.clo p m hp hm (.inl hpi)
   ·rcases hmem.1 hpi with hpi|rfl
    ·exact h.clo p m hp hm (.inr ⟨rfl,hpi⟩)
    ·obtain⟨q,hq,e⟩:=Dk hin;refine⟨q,hq,?_,aNo (hf q hq)⟩;rw[hv,Aa,Ae hq,e];rfl
 ·rw[if_neg hin];have hlen:(out++[go v l]).length=out.length+1:=sm;have hnew:(out++[go v l]).getD out.length 0=go v l:=by rw[Aa];simp
  have hne:∀ {k},k<out.length->¬k=out.length:=om;refine⟨fun k=>if k=out.length then W i++[l]else W k,by simp,?_,?_,?_,?_,?_,?_,?_,?_,?_⟩
  ·have:=h.pos;rw[if_neg om];exact h.w0
  ·rw[iB h.pos];exact h.o0
  ·rw[List.nodup_append];refine⟨h.nod,by simp,?_⟩;intro a ha' b hb e;simp at hb;subst hb;subst e;exact hin ha'
  ·intro x hx'
   rcases Aq.1 hx' with hx'|hx'
   ·exact h.rng x hx'
   ·simp at hx';subst hx';exact hx
  ·intro k hk;rw[hlen]at hk
   by_cases hk2:k=out.length
   ·subst hk2;rw[if_pos rfl,hnew,List.foldl_append,h.run i hi,hv];rfl
   ·rw[if_neg hk2,iB om];exact h.run k om
  ·intro k hk m hm;rw[hlen]at hk
   by_cases hk2:k=out.length
   ·rw[if_pos hk2]at hm
    rcases Aq.1 hm with hm|hm
    ·exact h.lts i hi m hm
    ·simp at hm;subst hm;exact hl
   ·rw[if_neg hk2]at hm;exact h.lts k om m hm
  ·intro j k hjk hk;rw[hlen]at hk;rw[if_neg (by omega:¬j=out.length)]
   by_cases hk2:k=out.length
   ·rw[if_pos hk2];exact hf j om
   ·rw[if_neg hk2];exact h.asc j k hjk om
  ·intro k h0 hk;rw[hlen]at hk
   by_cases hk2:k=out.length
   ·refine⟨i,l,by omega,hl,?_,.inr ⟨rfl,hmem.2 (.inr rfl)⟩⟩;rw[if_pos hk2,if_neg (hne hi)]
   ·obtain⟨p,m,a,b,c,d⟩:=h.pre k h0 om;refine⟨p,m,a,b,?_,?_⟩
    ·rw[if_neg hk2,if_neg (by omega:¬p=out.length)];exact c
    ·rcases d with d|⟨d,e⟩
     ·exact .inl d
     ·exact .inr ⟨d,hmem.2 (.inl e)⟩
  ·intro p m hp hm hpi;rw[hlen]at hp
   have old:∀p m,p<out.length->m∈ls->(p<i\/p=i/\m∈done)->∃q,q<(out++[go v l]).length/\(out++[go v l]).getD q 0=go ((out++[go v l]).getD p 0) m/\¬slt ((if p=out.length then W i++[l]else W p)++[m]) (if q=out.length then W i++[l]else W q):=by
    intro p m hp hm hpi;obtain⟨q,hq,e,hs⟩:=h.clo p m hp hm hpi;refine⟨q,by omega,?_,?_⟩
    ·rw[iB hq,iB hp];exact e
    ·rw[if_neg (hne hp),if_neg (hne hq)];exact hs
   rcases hpi with hpi|⟨rfl,hpi⟩
   ·exact old p m om hm (.inl hpi)
   ·rcases hmem.1 hpi with hpi|rfl
    ·exact old p m hi hm (.inr ⟨rfl,hpi⟩)
    ·refine⟨out.length,by omega,?_,?_⟩
     ·rw[hnew,iB hi,hv]
     ·rw[if_neg (hne hi),if_pos rfl];exact aEf _
theorem Bfs.row{i:Nat}{v:Int}(ha:Asc ls)(hv:∀l∈ls,0<=go v l/\go v l<n):∀(rest done out:List Int) (W:Nat->List Int),Bfs go ls n i done out W->ls=done++rest->i<out.length->out.getD i 0=v->∃W',Bfs go ls n i ls (rowU out (rest.map (go v))) W'/\out.length<=(rowU out (rest.map (go v))).length
 | [],done,out,W,h,hd,hi,ho=>by
  rw[Ah]at hd;subst hd;exact⟨W,h,Ad _⟩
 |l::rest,done,out,W,h,hd,hi,ho=>by
  obtain⟨W1,h1⟩:=h.step ha hd hi ho (hv l (by rw[hd];simp));have hl:=aPE out (go v l);obtain⟨W2,h2,h3⟩:=Bfs.row ha hv rest (done++[l]) _ W1 h1 (by rw[hd];simp) (Db hi hl) (by rw[aPe hi];exact ho);exact⟨W2,h2,Bk hl h3⟩
theorem Bfs.next{i:Nat}{out:List Int}{W:Nat->List Int}(h:Bfs go ls n i ls out W):Bfs go ls n (i+1) [] out W:=by
 refine⟨h.pos,h.w0,h.o0,h.nod,h.rng,h.run,h.lts,h.asc,?_,?_⟩
 ·intro k h0 hk;obtain⟨p,m,a,b,c,d⟩:=h.pre k h0 hk;exact⟨p,m,a,b,c,.inl om⟩
 ·intro p l hp hl hpi;refine h.clo p l hp hl ?_
  rcases hpi with hpi|⟨_,hpi⟩
  ·by_cases e:p=i
   ·exact .inr ⟨e,hl⟩
   ·exact .inl om
  ·simp at hpi
theorem Bfs.start(hn:0<n):Bfs go ls n 0 [] [0] (fun _=>[]):=by
 refine⟨by simp,rfl,rfl,by simp,?_,?_,?_,?_,?_,?_⟩
 ·intro x hx;simp at hx;subst hx;omega
 ·intro k hk;simp at hk;subst hk;rfl
 ·intro k hk l hl;cases hl
 ·intro j k h1 h2;simp at h2;omega
 ·intro k h1 h2;simp at h2;omega
 ·intro p l hp hl h
  rcases h with h|⟨_,h⟩
  ·omega
  ·simp at h
theorem Bfs.least{out:List Int}{W:Nat->List Int}(h:Bfs go ls n out.length [] out W):∀(c:Nat) (w:List Int),w.length=c->(∀l∈w,l∈ls)->∃q,q<out.length/\out.getD q 0=w.foldl go 0/\¬slt w (W q):=by
 intro c
 induction c with
 |zero=>
  intro w hw _;have:w=[]:=Bs.1 hw;subst this;exact⟨0,h.pos,h.o0,by rw[h.w0];exact aEf _⟩
 |succ c ih=>
  intro w hw hl
  rcases PM w with rfl|⟨u,l,rfl⟩
  ·simp at hw
  ·obtain⟨p,hp,e,hs⟩:=ih u (by simpa using hw) fun m hm=>hl m (by simp[hm]);obtain⟨q,hq,e2,hs2⟩:=h.clo p l hp (hl l sm) (.inl hp);refine⟨q,hq,by rw[e2,e,List.foldl_append];rfl,fun k=> ?_⟩
   rcases aLd u (W p)with g|g|g
   ·rw[g]at k;exact hs2 k
   ·exact hs g
   ·exact hs2 (JN (PQ.2 (.inl g)) k)
theorem Bfs.idx{i:Nat}{done out:List Int}{W:Nat->List Int}(h:Bfs go ls n i done out W){p q:Nat}(hp:p<out.length)(hq:q<out.length)(e:out.getD p 0=out.getD q 0):p=q:=by
 rw[Aa,Ae hp,Aa,Ae hq]at e;exact(List.getElem_inj h.nod).1 e
end
end

theorem aO0{al:Int}{rs:List (List Int)}{ac:List Bool}(ha:bH al=true)(h1:1<=rs.length)(h2:rs.length<=12)(h3:ac.length=rs.length)(hr:∀r∈rs,r.length=(aC al).length/\∀q∈r,0<=q/\q<rs.length):d9 al rs ac=true:=by
 unfold d9;simp only[Aj,decide_eq_true_eq];refine⟨⟨⟨⟨ha,by omega⟩,by omega⟩,by omega⟩,?_⟩;rw[Em,jP];intro i _ hi;have hi:i<rs.length:=om;obtain⟨hw,hq⟩:=hr (rs.getD i []) (by rw[Aa,Ae hi];exact Ba hi);unfold gG;rw[O6 om]
 have:seek (badQ rs.length (rs.getD i [])) (rs.getD i []).length 0=none:=by
  rw[jP];intro j _ hj;have hj:j<(rs.getD i []).length:=om;rw[yL];refine hq _ ?_;generalize rs.getD i []=r at *;rw[Aa,Ae hj];exact Ba hj
 rw[this];rfl
theorem aNO{al:Int}{rs:List (List Int)}{ac:List Bool}(h:d9 al rs ac=true){i:Nat}(hi:i<rs.length):(rs.getD i []).length=(aC al).length/\∀j,j<(aC al).length->0<=(rs.getD i []).getD j 0/\(rs.getD i []).getD j 0<rs.length:=by
 have hw:=aEk (yJ h) hi;refine⟨hw,?_⟩;intro j hj;unfold d9 at h;simp only[Aj]at h;have hb:=HL h.2 hi;unfold gG at hb;rw[O6 om]at hb
 have:=HL (p:=badQ rs.length (rs.getD i [])) (n:=(rs.getD i []).length) (by cases hs:seek (badQ rs.length (rs.getD i [])) (rs.getD i []).length 0 with
  |none=>rfl
  |some z=>rw[hs]at hb;cases hb) (i:=j) om
 exact yL.1 this
theorem aAJ{al:Int}{rs:List (List Int)}{ac:List Bool}(h:d9 al rs ac=true){q l:Int}(hq0:0<=q)(hq1:q<rs.length)(h0:0<=l)(h1:l<6):0<=goI al rs q l/\goI al rs q l<rs.length:=by
 unfold goI
 split
 ·rename_i hb
  exact(aNO h (i:=q.toNat) om).2 _ (CU h0 h1 hb).1
 ·exact⟨hq0,hq1⟩
theorem mO{l:Int}:aT l=true↔0<=l/\l<6:=by unfold aT;simp
theorem aLR{al al2:Int}{rs:List (List Int)}{x y:Int}{q l:Int}(hq0:0<=q)(hq1:q<rs.length)(h0:0<=l)(h1:l<6)(hb:bG al2 l=true):
  goI al2 (f7 al rs x y (aC al2) 0 rs.length) q l=goI al rs q (cH l x y):=by
 rw[aLi hb];have hk:q.toNat<rs.length:=om;obtain⟨p1,p2⟩:=CU h0 h1 hb
 have e1:(f7 al rs x y (aC al2) 0 rs.length).getD q.toNat []=m8 al rs x y (aC al2) q:=by
  unfold f7;rw[Aa,Bb,List.getElem?_range' hk];simp only[Ay,Bd,Ag,Nat.one_mul];rw[Cn hq0]
 rw[e1];unfold m8;rw[Aa,Bb,p2];rfl
theorem aDX{al x y:Int}{rs:List (List Int)}{ac:List Bool}(h:d9 al rs ac=true)(hx:aT x=true)(hy:aT y=true):d9 (bO al x y) (f7 al rs x y (aC (bO al x y)) 0 rs.length) ac=true:=by
 obtain⟨h1,h2,h3,ha⟩:=nY h;refine aO0 (qO ha hx hy) (by rw[sR];exact h1) (by rw[sR];exact h2) (by rw[sR];exact h3) ?_;intro r hr;unfold f7 at hr;obtain⟨q,hq,rfl⟩:=Bf.1 hr;rw[Cx]at hq;refine⟨aFN,?_⟩;intro z hz;unfold m8 at hz;obtain⟨l,hl,rfl⟩:=Bf.1 hz;rw[sR];have hl2:=mO.1 (MK (mO.2 (kL.1 hl).1) hx hy);exact aAJ h om om hl2.1 hl2.2
def stGo(al:Int)(rs:List (List Int))(w:List UInt8)(q:Int):Int:=w.foldl (fun q b=>goI al rs q (ltr b)) q
def GG(al:Int)(rs:List (List Int))(ac:List Bool)(w:List UInt8):Int:=if d9 al rs ac&&eZ al w then stGo al rs w 0 else -1
theorem V7{al:Int}{w:List UInt8}(hw:eZ al w=true):bH al=true/\w.length<=50000/\∀b∈w,okB b=true/\bG al (ltr b)=true:=by
 unfold eZ at hw;simp only[Aj,decide_eq_true_eq]at hw;refine⟨hw.1.1,hw.1.2,?_⟩;intro b hb;have:=Bh.1 hw.2 b hb;unfold inB at this
 simpa only[Aj]using this
abbrev Str:=List UInt8

section
def goS(a:Aut)(v l:Int):Int:=goI a.al a.nx v l
section
variable{a:Aut}{W:Nat->List Int}
end
section
variable{a:Aut}{W:Nat->List Int}
end
end
section
section
variable{α β:Type}[DecidableEq α][DecidableEq β]
abbrev idxG(o:List α)(x:α):Nat:=o.idxOf x
def addG(o:List α)(x:α):List α:=if x∈o then o else o++[x]
def aCU(l:List α):List α:=l.foldl addG []
def numL(l:List α):List Int:=l.map fun x=>((aCU l).idxOf x:Nat)
end
end

def clA(cl:List Int)(t:Int):Int:=cl.getD t.toNat 0
def sigA(a:Aut)(cl:List Int)(q:Nat):List Int:=cl.getD q 0::(a.nx.getD q []).map (clA cl)
def sigs(a:Aut)(cl:List Int):List (List Int):=(List.range a.nx.length).map (sigA a cl)
def clsG(a:Aut):Nat->List Int->Nat->List Int
 |0,cl,_=>cl
 |j+1,cl,c=>if(aCU (sigs a cl)).length=c then numL (sigs a cl)else clsG a j (numL (sigs a cl)) (aCU (sigs a cl)).length
def cl0(a:Aut):List Int:=a.ac.map fun b=>if b=true then 1 else 0
def DT(a:Aut):List Int:=clsG a (a.nx.length+1) (cl0 a) 0
def acQ(a:Aut)(q:Int):Bool:=a.ac.getD q.toNat false
def Eqv(a:Aut)(i j:Int):Prop:=∀w:List Int,(∀l∈w,l∈aC a.al)->acQ a (w.foldl (goS a) i)=acQ a (w.foldl (goS a) j)
structure Cls(a:Aut)(cl:List Int):Prop where
 len:cl.length=a.nx.length
 rng:∀q,q<a.nx.length->0<=cl.getD q 0/\cl.getD q 0<12
 coarse:∀i j:Nat,i<a.nx.length->j<a.nx.length->Eqv a i j->cl.getD i 0=cl.getD j 0
 fine:∀i j:Nat,i<a.nx.length->j<a.nx.length->cl.getD i 0=cl.getD j 0->acQ a i=acQ a j
end Ev
end Go.Proofs.YtahbdkmimmnadaaGreatDoor
