/-
  The first word that tells two states of automata apart, walked: the program's and the reference's.
-/
import Derived.Test.YtppffbehejpglaaGreatPathZ
import Derived.Test.YtppffbehejpglaaGreatSafe
import Derived.Test.YtppffbehejpglaaGreatWordAt
import Derived.Test.YtppffbehejpglaaGreatMemS
import Derived.Test.YtppffbehejpglaaGreatShlx
set_option linter.unusedSimpArgs false
set_option linter.unusedVariables false
set_option linter.unusedSectionVars false
set_option maxRecDepth 8000
set_option maxHeartbeats 4000000
namespace Go.Proofs.YtppffbehejpglaaGreat
namespace Ev
section
variable{R:Type}{L n:Nat}
theorem aV{a:Aut}(h:AOK a):aY a.nx/\wN (aB a.al).length a.nx/\1<=a.nx.length/\a.nx.length<=12/\a.ac.length=a.nx.length:=by
 obtain⟨a1,a2,a3,a4⟩:=fW h;have aw:=pI h;exact⟨⟨by omega,fun r hr=>by have:=aw r hr;have:=bQ a.al;omega⟩,aw,a1,a2,a3⟩
def tabP(a:Aut):D:=.iptr [.ivs a.nx.length (ints (pY a.al a.nx))]
def autP(a:Aut):D:=.iptr [.int .i64 a.al,.ivs a.nx.length (aG a.nx),.ivs a.ac.length (aD a.ac)]
def inP(a b:Aut)(x:Int):Prop:=0<=x/\x<(a.nx.length:Int)*b.nx.length
theorem TC(hn:1<=n){a b:Aut}(ha:AOK a)(hb:AOK b){x c:Int}(hx:inP a b x)(hc0:0<=c)(hc6:c<6)(o:List Int)(ho:o.length<=4200000000):
  aA env L n 104 [nI x,nI c,.sl 0 0 0 o.length,.d (tabP a),.d (.iptr [.int .i64 b.nx.length]),.d (tabP b)] [.arr (ints o) 1 0]=some (.sl 0 (nxT a b x c).length 0 (o++nxT a b x c).length,[.arr (ints (o++nxT a b x c)) 1 (nxT a b x c).length]):=by
 obtain⟨sa,wa,a1,a2,a3⟩:=aV ha;obtain⟨sb,wb,b1,b2,b3⟩:=aV hb;obtain⟨p,q⟩:=A9 (na:=a.nx.length) (nb:=b.nx.length) om hx.1 hx.2;have ga:=nV ha p.1 p.2 hc0 hc6;have gb:=nV hb q.1 q.2 hc0 hc6;have hla:=kG a.al a.nx;have hlb:=kG b.al b.nx;have hta:=YV (al:=a.al) p.1 p.2 hc0 hc6;have htb:=YV (al:=b.al) q.1 q.2 hc0 hc6;rw[Ck]at hta htb
 have hprod:(a.nx.length:Int)*b.nx.length<=144:=by
  have h1:(a.nx.length:Int)*b.nx.length<=12*b.nx.length:=Ef om om;omega
 have hx1:=hx.2;have hin:=G4 ga gb;have hm0:0<=goI a.al a.nx (x.tdiv b.nx.length) c*b.nx.length:=Int.mul_nonneg ga.1 om;have hb0:¬(b.nx.length:Int)=0:=om;unfold nxT tabP;have d1:(x.tdiv b.nx.length).toNat*6<=a.nx.length*6:=om;have d2:(x.tmod b.nx.length).toNat*6<=b.nx.length*6:=om;have d3:c.toNat<a.nx.length*6-(x.tdiv b.nx.length).toNat*6:=om;have d4:c.toNat<b.nx.length*6-(x.tmod b.nx.length).toNat*6:=om;generalize goI a.al a.nx (x.tdiv b.nx.length) c=g1 at *;generalize goI b.al b.nx (x.tmod b.nx.length) c=g2 at *;obtain⟨x0,x1⟩:=hx;obtain⟨p0,p1⟩:=p;obtain⟨q0,q1⟩:=q;have xs:x<=144:=om;have hl1:((List.length [g1*(b.nx.length:Int)+g2]))=1:=rfl;clear ha hb sa sb wa wb x1;obtain _|n:=n;omega
 simp-implicitDefEqProofs (maxSteps:=9^7) (disch:=try exact Dz) only[↓DN,↓kAsg,↓kRet,UP,simprocAttr,hla,hlb,hta,htb,p0,p1,q0,q1,Cf,Ck,hl1,TO,C9,Tryz.f104]
theorem aNp{R:Type}{L n id:Nat}{hq:H}{k:KA R}(hn:1<=n){a b:Aut}(ha:AOK a)(hb:AOK b)(x c:Int)(o:List Int)(hx:inP a b x)(hc0:0<=c)(hc6:c<6)(ho:o.length<=4200000000)(hid:hq[id]? =some (.arr (ints o) 1 0)):
  aW env (aA env L n) hq 104 (nI x::nI c::.sl id 0 0 o.length::[tabP a,.iptr [.int .i64 b.nx.length],tabP b].map A.d) k
  =k (.sl id (nxT a b x c).length 0 (o++nxT a b x c).length) (hq.set id (.arr (ints (o++nxT a b x c)) 1 (nxT a b x c).length)):=by
 refine QB hid (by simp[idsL,idsA]) n5 ?_;have hpl:aJ [id] id=some 0:=by simp[aJ]
 simp only[Ai,Ar,aF,mapA,hpl];exact TC hn ha hb hx hc0 hc6 o ho
theorem aTD:dV env.P 99=some false:=kr
theorem TT(hn:2<=n){a b:Aut}{f:Bool->Bool->Bool}{go:FuncId}(hm:(env.hint go).mode=0)(kc_o:∀(x y:Bool) {R:Type} {n:Nat} {hq:H} {k:KA R},1<=n->aW env (aA env L n) hq go [.d (.bool x),.d (.bool y)] k=k (.d (.bool (f x y))) hq)(ha:AOK a)(hb:AOK b){x:Int}(hx:inP a b x):
  aA env L n 106 [nI x,.d (.iptr [.fn go []]),.d (autP a),.d (.iptr [.int .i64 b.nx.length]),.d (autP b)] []=some (.d (.bool (glT f a b x)),[]):=by
 obtain⟨sa,wa,a1,a2,a3⟩:=aV ha;obtain⟨sb,wb,b1,b2,b3⟩:=aV hb;obtain⟨p,q⟩:=A9 (na:=a.nx.length) (nb:=b.nx.length) om hx.1 hx.2
 have hprod:(a.nx.length:Int)*b.nx.length<=144:=by
  have h1:(a.nx.length:Int)*b.nx.length<=12*b.nx.length:=Ef om om;omega
 have hb0:¬(b.nx.length:Int)=0:=om;have e1:(x.tdiv b.nx.length).toNat<a.ac.length:=om;have e2:(x.tmod b.nx.length).toNat<b.ac.length:=om;have e3:x.tdiv b.nx.length<(a.ac.length:Int):=om;have e4:x.tmod b.nx.length<(b.ac.length:Int):=om;obtain⟨x0,x1⟩:=hx;obtain⟨p0,p1⟩:=p;obtain⟨q0,q1⟩:=q;have xs:x<=144:=om;have kc_p:=fun {R:Type} {n:Nat} {hq:H} {k:KA R} (hn:1<=n)=>kc_o (a.ac.getD (x.tdiv b.nx.length).toNat false) (b.ac.getD (x.tmod b.nx.length).toNat false) (R:=R) (n:=n) (hq:=hq) (k:=k) hn;unfold glT autP;clear ha hb sa sb wa wb x1 kc_o;obtain _|n:=n;omega
 simp-implicitDefEqProofs (maxSteps:=9^7) (disch:=try exact Dz) only[↓DN,↓kAsg,↓kRet,UP,simprocAttr,LA,aTD,hm,p0,e3,q0,e4,e1,e2,↓kc_p,TQ,D2,Tryz.f106]
theorem aNI{hq:H}{k:KA R}(hn:2<=n){a b:Aut}{f:Bool->Bool->Bool}{go:FuncId}(hm:(env.hint go).mode=0)(kc_o:∀(x y:Bool) {R:Type} {n:Nat} {hq:H} {k:KA R},1<=n->aW env (aA env L n) hq go [.d (.bool x),.d (.bool y)] k=k (.d (.bool (f x y))) hq)(ha:AOK a)(hb:AOK b)(x:Int)(hx:inP a b x):
  aW env (aA env L n) hq 106 (nI x::[.iptr [.fn go []],autP a,.iptr [.int .i64 b.nx.length],autP b].map A.d) k=k (.d (.bool (glT f a b x))) hq:=
 b6 rfl (TT hn hm kc_o ha hb hx) rfl (.inl rfl)
theorem aBg{L:Nat}{a b:A}{id g o len f1 f2:Nat}{c1 c2:List A}:KV L 105 [a,.sl id g o len,b,.clo f1 c1,.clo f2 c2]:=fun _ _ _ _=>eA oJ
theorem aTI{v:Int}:ints [v]=[.int .i64 v]:=rfl
theorem aCo(hn:8<=n)(hL:2^60<=L){a b:Aut}{f:Bool->Bool->Bool}{go:FuncId}(hm:(env.hint go).mode=0)(kc_o:∀(x y:Bool) {R:Type} {n:Nat} {hq:H} {k:KA R},1<=n->aW env (aA env L n) hq go [.d (.bool x),.d (.bool y)] k=k (.d (.bool (f x y))) hq)(ha:AOK a)(hb:AOK b){i j:Int}(hi:0<=i/\i<a.nx.length)(hj:0<=j/\j<b.nx.length):
  aA env L n 82 [.agg [nI a.al,.d (.ivs a.nx.length (aG a.nx)),.d (.ivs a.ac.length (aD a.ac))],.agg [nI b.al,.d (.ivs b.nx.length (aG b.nx)),.d (.ivs b.ac.length (aD b.ac))],nI i,nI j,.d (.fn go [])] []=some (.tup [.d (.str (txt (twoG f a b i j).1)),.d (.bool (twoG f a b i j).2)],[]):=by
 obtain⟨sa,wa,a1,a2,a3⟩:=aV ha;obtain⟨sb,wb,b1,b2,b3⟩:=aV hb
 have hprod:(a.nx.length:Int)*b.nx.length<=144:=by
  have h1:(a.nx.length:Int)*b.nx.length<=12*b.nx.length:=Ef om om;omega
 have hprodN:a.nx.length*b.nx.length<=144:=by
  have:=hprod;rw[<-Cg]at this;omega
 have hin:=G4 hi hj
 have hp:=fun {n:Nat} (hn:7<=n)=> @ON L n 0 hn hL (inP a b) (glT f a b) 104 106 [tabP a,.iptr [.int .i64 b.nx.length],tabP b] [.iptr [.fn go []],autP a,.iptr [.int .i64 b.nx.length],autP b] (a.nx.length*b.nx.length) (nxT a b) (fun x c=>(nxT a b x c).length) (aB a.al) [i*b.nx.length+j]
  (fun {R n id hq k} x c o h4 hI h0 h6 ho hid=>aNp om ha hb x c o hI h0 h6 ho hid)
  (fun {R n hq k} x h2 hI=>aNI h2 hm kc_o ha hb x hI)
  (fun x hI=>by rw[Cg];exact hI) om (fun x hx=>by simp at hx;subst hx;exact hin) (fun x c hI h0 h6 y hy=>YJ ha hb hI.1 hI.2 ⟨h0,h6⟩ y hy) (fun x c=>by simp[nxT]) cK (bQ a.al) sm (by
   have:0<(a.nx.length:Int)*b.nx.length:=Int.mul_pos om om;rw[<-Cg]at this;simp only[Ae,Ac];omega)
 have kl_p:=fun {R:Type} {n:Nat} {k:A->Option R} (hn:7<=n)=>mJ (k:=k) (hp (n:=n) hn) rfl;have er:F3 (nxT a b) (glT f a b) (aB a.al) [i*b.nx.length+j] (a.nx.length*b.nx.length)=twoG f a b i j:=rfl;rw[er]at kl_p;simp only[aTI,Ae,Ac,Ag,Cg,tabP,autP]at kl_p;have hi2:0<=i*(b.nx.length:Int):=Int.mul_nonneg hi.1 om;obtain⟨i0,i1⟩:=hi;obtain⟨j0,j1⟩:=hj;obtain⟨n0,n1⟩:=hin;have hm0:0<=(a.nx.length:Int)*b.nx.length:=om;have hla:=kG a.al a.nx;have hlb:=kG b.al b.nx;clear hp kc_o ha hb er;generalize twoG f a b i j=r at *;obtain _|n:=n;omega
 simp-implicitDefEqProofs (maxSteps:=9^7) (disch:=try exact Dz) only[↓DN,↓kAsg,↓kRet,UP,simprocAttr,↓JO,↓kS,↓aBg,↓kl_p,aBw,MV,Tryz.f82]
def N3(a:Aut)(i j:Int):Bool:=bX a.al a.nx a.ac&&(decide (0<=i)&&decide (i<a.nx.length))&&(decide (0<=j)&&decide (j<a.nx.length))
def jP(a:Aut)(i j:Int):List Int×Bool:=if N3 a i j=true then twoG (fun x y=>x !=y) a a i j else([],false)
theorem TH(hn:1<=n)(x y:Bool):aA env L n 83 [.d (.bool x),.d (.bool y)] []=some (.d (.bool (x !=y)),[]):=by
 obtain _|n:=n;omega
 simp-implicitDefEqProofs (maxSteps:=9^7) (disch:=try exact Dz) only[↓DN,↓kAsg,↓kRet,UP,simprocAttr,TI,DD,Tryz.f83]
 all_goals (cases x<;>cases y<;>rfl)
theorem TP{hq:H}{k:KA R}(hn:1<=n)(x y:Bool):aW env (aA env L n) hq 83 [.d (.bool x),.d (.bool y)] k=k (.d (.bool (x !=y))) hq:=
 b6 rfl (TH hn x y) rfl (.inl rfl)
theorem JX(hn:9<=n)(a:Aut)(i j:Int)(hs:aY a.nx)(hac:a.ac.length<=4294967296)(hL:2^60<=L):aA env L n 49 [.agg [nI a.al,.d (.ivs a.nx.length (aG a.nx)),.d (.ivs a.ac.length (aD a.ac))],nI i,nI j] []=some (.tup [.d (.str (txt (jP a i j).1)),.d (.bool (jP a i j).2)],[]):=by
 have hrl:=hs.1;unfold jP N3
 cases hv:bX a.al a.nx a.ac with
 |false=>
  simp only[Cx,Ak,if_false,txt,Ar];obtain _|n:=n;omega
  simp-implicitDefEqProofs (maxSteps:=9^7) (disch:=try exact Dz) only[↓DN,↓kAsg,↓kRet,UP,simprocAttr,↓bA,hv,iS,gN,Tryz.f49]
 |true=>
  by_cases h1:0<=i
  ·by_cases h2:i<a.nx.length
   ·by_cases h3:0<=j
    ·by_cases h4:j<a.nx.length
     ·simp only[h1,h2,h3,h4,decide_true,Bt,if_true];have kl_b:=fun {R:Type} {n:Nat} {k:A->Option R} (hn:8<=n)=>mJ (call:=aA env L n) (k:=k) (f:=82) (@aCo L n hn hL a a (fun x y=>x !=y) 83 nC (fun x y {R n hq k} hn=>TP hn x y) hv hv i j ⟨h1,h2⟩ ⟨h3,h4⟩) rfl;have kv_l:=fun {R:Type} {n:Nat} {hq:H} {args:List A} {k:KA R}=>eA (E:=env) (call:=aA env L n) (h:=hq) (k:=k) (args:=args) rQ;generalize twoG (fun x y=>x !=y) a a i j=r at *;have g1:¬i<0:=om;have g2:¬(a.nx.length:Int)<=i:=om;have g3:¬j<0:=om;have g4:¬(a.nx.length:Int)<=j:=om;obtain _|n:=n;omega
      simp-implicitDefEqProofs (maxSteps:=9^7) (disch:=try exact Dz) only[↓DN,↓kAsg,↓kRet,UP,simprocAttr,↓bA,hv,g1,g2,g3,g4,↓kv_l,↓kl_b,iS,gN,Tryz.f49]
     ·simp only[h1,h2,h3,h4,decide_true,decide_false,Bt,Dm,Ak,if_false,txt,Ar];have g1:¬i<0:=om;have g2:¬(a.nx.length:Int)<=i:=om;have g3:¬j<0:=om;have g4:(a.nx.length:Int)<=j:=om;obtain _|n:=n;omega
      simp-implicitDefEqProofs (maxSteps:=9^7) (disch:=try exact Dz) only[↓DN,↓kAsg,↓kRet,UP,simprocAttr,↓bA,hv,g1,g2,g3,g4,iS,gN,Tryz.f49]
    ·simp only[h1,h2,h3,decide_true,decide_false,Bt,Dm,Cx,Ak,if_false,txt,Ar];have g1:¬i<0:=om;have g2:¬(a.nx.length:Int)<=i:=om;have g3:j<0:=om;obtain _|n:=n;omega
     simp-implicitDefEqProofs (maxSteps:=9^7) (disch:=try exact Dz) only[↓DN,↓kAsg,↓kRet,UP,simprocAttr,↓bA,hv,g1,g2,g3,iS,gN,Tryz.f49]
   ·simp only[h1,h2,decide_true,decide_false,Dm,Cx,Ak,if_false,txt,Ar];have g1:¬i<0:=om;have g2:(a.nx.length:Int)<=i:=om;obtain _|n:=n;omega
    simp-implicitDefEqProofs (maxSteps:=9^7) (disch:=try exact Dz) only[↓DN,↓kAsg,↓kRet,UP,simprocAttr,↓bA,hv,g1,g2,iS,gN,Tryz.f49]
  ·simp only[h1,decide_false,Dm,Cx,Ak,if_false,txt,Ar];have g1:i<0:=om;obtain _|n:=n;omega
   simp-implicitDefEqProofs (maxSteps:=9^7) (disch:=try exact Dz) only[↓DN,↓kAsg,↓kRet,UP,simprocAttr,↓bA,hv,g1,iS,gN,Tryz.f49]
theorem aB7:type_of% fun {L} a i j hs hac hL=>ks fun hn=> @JX L _ hn a i j hs hac hL:=fun {L} a i j hs hac hL=>ks fun hn=> @JX L _ hn a i j hs hac hL
theorem XF(hn:1<=n)(al:Int)(rs:List (List Int))(z:Nat)(cs:List D)(hrl:rs.length<=4294967296)(i:Int):aA env L n 98 [.agg [nI al,.d (.ivs rs.length (aG rs)),.d (.ivs z cs)],nI i] []=some (.d (.bool (decide (0<=i)&&decide (i<rs.length))),[]):=by
 by_cases h1:0<=i
 ·by_cases h2:i<rs.length
  ·simp only[h1,h2,decide_true,Bt];obtain _|n:=n;omega
   simp-implicitDefEqProofs (maxSteps:=9^7) (disch:=try exact Dz) only[↓DN,↓kAsg,↓kRet,UP,simprocAttr,h1,h2,H3,B4,Tryz.f98]
  ·simp only[h1,h2,decide_true,decide_false,Dm];obtain _|n:=n;omega
   simp-implicitDefEqProofs (maxSteps:=9^7) (disch:=try exact Dz) only[↓DN,↓kAsg,↓kRet,UP,simprocAttr,h1,h2,H3,B4,Tryz.f98]
 ·simp only[h1,decide_false,Cx];obtain _|n:=n;omega
  simp-implicitDefEqProofs (maxSteps:=9^7) (disch:=try exact Dz) only[↓DN,↓kAsg,↓kRet,UP,simprocAttr,h1,H3,B4,Tryz.f98]
theorem rS:type_of% fun {L} al rs z cs hrl i=>ks fun hn=> @XF L _ hn al rs z cs hrl i:=fun {L} al rs z cs hrl i=>ks fun hn=> @XF L _ hn al rs z cs hrl i
theorem JR(hn:12<=n)(a:Aut)(i j:Int)(hs:aY a.nx)(hac:a.ac.length<=4294967296)(hL:2^60<=L):aA env L n 75 [.agg [nI a.al,.d (.ivs a.nx.length (aG a.nx)),.d (.ivs a.ac.length (aD a.ac))],nI i,nI j] []=some (.tup [.d (.str (txt (jP a i j).1)),.d (.bool (jP a i j).2)],[]):=by
 have hrl:=hs.1;unfold jP N3
 cases hv:bX a.al a.nx a.ac with
 |false=>
  simp only[Cx,Ak,if_false,txt,Ar];obtain _|n:=n;omega
  simp-implicitDefEqProofs (maxSteps:=9^7) (disch:=try exact Dz) only[↓DN,↓kAsg,↓kRet,UP,simprocAttr,↓a8,hv,pM,lY,Tryz.f75]
 |true=>
  by_cases h1:0<=i/\i<a.nx.length
  ·by_cases h3:0<=j/\j<a.nx.length
   ·obtain⟨h1,h2⟩:=h1;obtain⟨h3,h4⟩:=h3;simp only[h1,h2,h3,h4,decide_true,Bt,if_true];have kc_b:=fun {R:Type} {n:Nat} {k:A->Option R} (hn:11<=n)=>mJ (call:=aA env L n) (k:=k) (f:=99) (@aHJ L n hn hL a a i j 1 hv hv rfl ⟨h1,h2⟩ ⟨h3,h4⟩ (.inl rfl)) rfl;simp only[if_true,gE,ints,Ai,Ar]at kc_b;have kl_b:=fun {R:Type} {n:Nat} {k:A->Option R} (hn:11<=n)=>kc_b (R:=R) (n:=n) (k:=k) hn;have kv_l:=fun {R:Type} {n:Nat} {hq:H} {args:List A} {k:KA R}=>eA (E:=env) (call:=aA env L n) (h:=hq) (k:=k) (args:=args) tG;clear kc_b;generalize twoG (fun x y=>x !=y) a a i j=r at *;obtain _|n:=n;omega
    simp-implicitDefEqProofs (maxSteps:=9^7) (disch:=try exact Dz) only[↓DN,↓kAsg,↓kRet,UP,simprocAttr,↓a8,↓rS,hv,h1,h2,h3,h4,↓kv_l,↓kl_b,pM,lY,Tryz.f75]
   ·have e3:(decide (0<=j)&&decide (j<a.nx.length))=false:=by
     rw[Bool.and_eq_false_iff,decide_eq_false_iff_not,decide_eq_false_iff_not];omega
    obtain⟨h1,h2⟩:=h1;simp only[h1,h2,e3,decide_true,Bt,Dm,Ak,if_false,txt,Ar];obtain _|n:=n;omega
    simp-implicitDefEqProofs (maxSteps:=9^7) (disch:=try exact Dz) only[↓DN,↓kAsg,↓kRet,UP,simprocAttr,↓a8,↓rS,hv,h1,h2,e3,pM,lY,Tryz.f75]
  ·have e3:(decide (0<=i)&&decide (i<a.nx.length))=false:=by
    rw[Bool.and_eq_false_iff,decide_eq_false_iff_not,decide_eq_false_iff_not];omega
   simp only[e3,Dm,Cx,Ak,if_false,txt,Ar];obtain _|n:=n;omega
   simp-implicitDefEqProofs (maxSteps:=9^7) (disch:=try exact Dz) only[↓DN,↓kAsg,↓kRet,UP,simprocAttr,↓a8,↓rS,hv,e3,pM,lY,Tryz.f75]
theorem aBr:type_of% fun {L} a i j hs hac hL=>ks fun hn=> @JR L _ hn a i j hs hac hL:=fun {L} a i j hs hac hL=>ks fun hn=> @JR L _ hn a i j hs hac hL
end
section
variable{R:Type}{L n:Nat}
def nxS(a:Aut)(v l:Int):List Int:=[goI a.al a.nx v l]
def glS(st v:Int):Bool:=decide (v=st)
def inS(a:Aut)(x:Int):Prop:=0<=x/\x<(a.nx.length:Int)
def oneG(a:Aut)(st:Int):List Int×Bool:=F3 (nxS a) (glS st) (aB a.al) [0] a.nx.length
def accG(a:Aut)(st:Int):List Int×Bool:=if bX a.al a.nx a.ac=true then oneG a st else([],false)
theorem PG{a:Aut}(ha:AOK a){v c:Int}(h0:0<=v)(h1:v<(a.nx.length:Int))(hc:0<=c/\c<6):∀m∈nxS a v c,0<=m/\m<(a.nx.length:Int):=by
 intro m hm;simp only[nxS,Bp]at hm;subst hm;exact nV ha h0 h1 hc.1 hc.2
theorem GX{a:Aut}(ha:AOK a)(st:Int):GG (Hits (nxS a) (aB a.al) [0] (glS st)) (oneG a st):=by
 obtain⟨_,_,h1,_,_⟩:=aV ha;refine aFp (mH _) (fun p c h0 h1 hc=> ?_) (fun n hn=> ?_) sm
 ·have:=cK c hc;exact PG ha h0 h1 om
 ·simp only[Bp]at hn;omega
theorem aFN{a:Aut}(ha:AOK a):∀(w:List Int) (v u:Int),0<=v->v<(a.nx.length:Int)->Path (nxS a) (aB a.al) v w u->0<=u/\u<(a.nx.length:Int)
 | [],v,u,h0,h1,h=>by simp only[Path]at h;subst h;exact⟨h0,h1⟩
 |l::w,v,u,h0,h1,h=>by
  simp only[Path]at h;obtain⟨hl,m,hm,hp⟩:=h;have:=cK l hl;have hr:=PG ha h0 h1 ⟨this.1,by omega⟩ m hm;exact aFN ha w m u hr.1 hr.2 hp
theorem aSf{a:Aut}(ha:AOK a){st:Int}(h:¬(0<=st/\st<(a.nx.length:Int))):oneG a st=([],false):=by
 obtain⟨_,_,h1,_,_⟩:=aV ha
 rcases GX ha st with⟨_,⟨u,⟨s,hs,hp⟩,hg⟩,_⟩|⟨he,_⟩
 ·simp only[Bp]at hs;subst hs;have:=aFN ha _ _ _ om om hp;simp only[glS,decide_eq_true_eq]at hg;subst hg;exact absurd this h
 ·exact he
theorem aSY{v:Int}:ints [v]=[.int .i64 v]:=rfl
theorem ZM(hn:1<=n){a:Aut}(ha:AOK a){x c:Int}(hx:inS a x)(hc0:0<=c)(hc6:c<6)(o:List Int)(ho:o.length<=4200000000):
  aA env L n 107 [nI x,nI c,.sl 0 0 0 o.length,.d (tabP a)] [.arr (ints o) 1 0]=some (.sl 0 (nxS a x c).length 0 (o++nxS a x c).length,[.arr (ints (o++nxS a x c)) 1 (nxS a x c).length]):=by
 obtain⟨sa,wa,a1,a2,a3⟩:=aV ha;have ga:=nV ha hx.1 hx.2 hc0 hc6;have hla:=kG a.al a.nx;have hta:=YV (al:=a.al) hx.1 hx.2 hc0 hc6;rw[Ck]at hta;unfold nxS tabP;obtain⟨x0,x1⟩:=hx;have d1:x.toNat*6<=a.nx.length*6:=om;have d3:c.toNat<a.nx.length*6-x.toNat*6:=om;generalize goI a.al a.nx x c=g1 at *;have hl1:(List.length [g1])=1:=rfl;clear ha sa wa;obtain _|n:=n;omega
 simp-implicitDefEqProofs (maxSteps:=9^7) (disch:=try exact Dz) only[↓DN,↓kAsg,↓kRet,UP,simprocAttr,hla,hta,x0,x1,Cf,Ck,hl1,ZJ,HJ,Tryz.f107]
theorem aM6{R:Type}{L n id:Nat}{hq:H}{k:KA R}(hn:1<=n){a:Aut}(ha:AOK a)(x c:Int)(o:List Int)(hx:inS a x)(hc0:0<=c)(hc6:c<6)(ho:o.length<=4200000000)(hid:hq[id]? =some (.arr (ints o) 1 0)):
  aW env (aA env L n) hq 107 (nI x::nI c::.sl id 0 0 o.length::[tabP a].map A.d) k
  =k (.sl id (nxS a x c).length 0 (o++nxS a x c).length) (hq.set id (.arr (ints (o++nxS a x c)) 1 (nxS a x c).length)):=by
 refine QB hid (by simp[idsL,idsA]) qM ?_;have hpl:aJ [id] id=some 0:=by simp[aJ]
 simp only[Ai,Ar,aF,mapA,hpl];exact ZM hn ha hx hc0 hc6 o ho
theorem XM(hn:1<=n)(x st:Int):aA env L n 86 [nI x,.d (.iptr [.int .i64 st])] []=some (.d (.bool (glS st x)),[]):=by
 unfold glS
 by_cases h:x=st
 ·subst h;obtain _|n:=n;omega
  simp-implicitDefEqProofs (maxSteps:=9^7) (disch:=try exact Dz) only[↓DN,↓kAsg,↓kRet,UP,simprocAttr,DW,uX,Tryz.f86]
 ·have h2:(x==st)=false:=by simpa using h
  have h3:decide (x=st)=false:=by simpa using h
  obtain _|n:=n;omega
  simp-implicitDefEqProofs (maxSteps:=9^7) (disch:=try exact Dz) only[↓DN,↓kAsg,↓kRet,UP,simprocAttr,h3,DW,uX,Tryz.f86]
theorem aER(hn:8<=n)(hL:2^60<=L){a:Aut}(ha:AOK a)(st:Int):
  aA env L n 85 [.agg [nI a.al,.d (.ivs a.nx.length (aG a.nx)),.d (.ivs a.ac.length (aD a.ac))],.d (.fn 86 [.iptr [.int .i64 st]])] []=some (.tup [.d (.str (txt (oneG a st).1)),.d (.bool (oneG a st).2)],[]):=by
 obtain⟨sa,wa,a1,a2,a3⟩:=aV ha
 have hp:=fun {n:Nat} (hn:7<=n)=> @ON L n 0 hn hL (inS a) (glS st) 107 86 [tabP a] [.iptr [.int .i64 st]] a.nx.length (nxS a) (fun x c=>(nxS a x c).length) (aB a.al) [0]
  (fun {R n id hq k} x c o h4 hI h0 h6 ho hid=>aM6 om ha x c o hI h0 h6 ho hid)
  (fun {R n hq k} x h2 hI=>b6 rfl (XM om x st) rfl (.inl rfl))
  (fun x hI=>hI) om (fun x hx=>by simp at hx;subst hx;exact⟨by omega,by omega⟩) (fun x c hI h0 h6 y hy=>PG ha hI.1 hI.2 ⟨h0,h6⟩ y hy) (fun x c=>by simp[nxS]) cK (bQ a.al) sm (by simp only[Ae,Ac];omega)
 have kl_p:=fun {R:Type} {n:Nat} {k:A->Option R} (hn:7<=n)=>mJ (k:=k) (hp (n:=n) hn) rfl;have er:F3 (nxS a) (glS st) (aB a.al) [0] a.nx.length=oneG a st:=rfl;rw[er]at kl_p;simp only[aSY,Ae,Ac,Ag,tabP]at kl_p;have hla:=kG a.al a.nx;have kv_l:=fun {R:Type} {n:Nat} {hq:H} {args:List A} {k:KA R}=>eA (E:=env) (call:=aA env L n) (h:=hq) (k:=k) (args:=args) oJ;clear hp ha er;generalize oneG a st=r at *;obtain _|n:=n;omega
 simp-implicitDefEqProofs (maxSteps:=9^7) (disch:=try exact Dz) only[↓DN,↓kAsg,↓kRet,UP,simprocAttr,↓JO,↓kS,↓kv_l,↓kl_p,aFE,SY,Tryz.f85]
theorem K8(hn:9<=n)(a:Aut)(st:Int)(hs:aY a.nx)(hac:a.ac.length<=4294967296)(hL:2^60<=L):aA env L n 51 [.agg [nI a.al,.d (.ivs a.nx.length (aG a.nx)),.d (.ivs a.ac.length (aD a.ac))],nI st] []=some (.tup [.d (.str (txt (accG a st).1)),.d (.bool (accG a st).2)],[]):=by
 have hrl:=hs.1;unfold accG
 cases hv:bX a.al a.nx a.ac with
 |false=>
  simp only[Ak,if_false,txt,Ar];obtain _|n:=n;omega
  simp-implicitDefEqProofs (maxSteps:=9^7) (disch:=try exact Dz) only[↓DN,↓kAsg,↓kRet,UP,simprocAttr,↓bA,hv,MG,B0,Tryz.f51]
 |true=>
  simp only[if_true];have kl_b:=fun {R:Type} {n:Nat} {k:A->Option R} (hn:8<=n)=>mJ (call:=aA env L n) (k:=k) (f:=85) (@aER L n hn hL a hv st) rfl;have kv_l:=fun {R:Type} {n:Nat} {hq:H} {args:List A} {k:KA R}=>eA (E:=env) (call:=aA env L n) (h:=hq) (k:=k) (args:=args) wK;generalize oneG a st=r at *;obtain _|n:=n;omega
  simp-implicitDefEqProofs (maxSteps:=9^7) (disch:=try exact Dz) only[↓DN,↓kAsg,↓kRet,UP,simprocAttr,↓bA,hv,↓kv_l,↓kl_b,MG,B0,Tryz.f51]
theorem aDA:type_of% fun {L} a st hs hac hL=>ks fun hn=> @K8 L _ hn a st hs hac hL:=fun {L} a st hs hac hL=>ks fun hn=> @K8 L _ hn a st hs hac hL
end
theorem aSu:∀(a:Fin 64) (l m:Fin 6),cO (iOr .i64 (a.val:Int) (bitI (l.val:Int))) (m.val:Int)=(cO (a.val:Int) (m.val:Int)||decide (m.val=l.val)):=by decide+kernel
theorem aQo:∀(a:Fin 64) (l:Fin 6),0<=iOr .i64 (a.val:Int) (bitI (l.val:Int))/\iOr .i64 (a.val:Int) (bitI (l.val:Int))<=63:=by decide+kernel
theorem aTn{a l m:Int}(ha:cQ a=true)(hl:eV l=true)(hm:eV m=true):cO (iOr .i64 a (bitI l)) m=(cO a m||decide (m=l)):=by
 unfold cQ at ha;simp only[decide_eq_true_eq]at ha;have hl:=xP.1 hl;have hm:=xP.1 hm;have h:=aSu ⟨a.toNat,by omega⟩ ⟨l.toNat,by omega⟩ ⟨m.toNat,by omega⟩;simp only[Bx ha.1,Bx hl.1,Bx hm.1]at h;rw[h]
 congr 1
 have:(m.toNat=l.toNat)↔m=l:=om;simp only[this]
theorem aQi{a l:Int}(ha:cQ a=true)(hl:eV l=true):cQ (iOr .i64 a (bitI l))=true:=by
 unfold cQ at ha|-;simp only[decide_eq_true_eq]at ha|-;have hl:=xP.1 hl;have h:=aQo ⟨a.toNat,by omega⟩ ⟨l.toNat,by omega⟩
 simpa only[Bx ha.1,Bx hl.1]using h
def aIg(ls:List Int):Int:=ls.foldl (fun o l=>iOr .i64 o (bitI l)) 0
theorem aCz{ls:List Int}:∀ {a:Int},cQ a=true->(∀l∈ls,eV l=true)->cQ (ls.foldl (fun o l=>iOr .i64 o (bitI l)) a)=true/\∀m,eV m=true->cO (ls.foldl (fun o l=>iOr .i64 o (bitI l)) a) m=(cO a m||ls.any (fun l=>decide (m=l))):=by
 induction ls with
 |nil=>intro a ha _;exact⟨ha,fun m _=>by simp⟩
 |cons l ls ih=>
  intro a ha hl;have h1:=aQi ha (hl l sm);obtain⟨h2,h3⟩:=ih h1 (fun x hx=>hl x (by simp[hx]));refine⟨h2,fun m hm=> ?_⟩;rw[Di,h3 m hm,aTn ha (hl l sm) hm,List.any_cons,Bool.or_assoc]
theorem aQZ:∀m:Int,eV m=true->cO 0 m=false:=by
 intro m _;unfold cO;simp
theorem aLe{ls:List Int}(h:∀l∈ls,eV l=true):cQ (aIg ls)=true:=(aCz (a:=0) rfl h).1
theorem aOn{ls:List Int}(h:∀l∈ls,eV l=true){m:Int}(hm:eV m=true):cO (aIg ls) m=ls.any (fun l=>decide (m=l)):=by
 have:=(aCz (a:=0) rfl h).2 m hm;rw[aQZ m hm,Bool.false_or]at this;exact this
def xL(s:List UInt8):Int:=aIg (s.map ltr)
theorem aQV{β α:Type}{f:β->α->β}{l:List α}{i:Nat}{d:α}{o:β}(h:i<l.length):(l.drop i).foldl f o=(l.drop (i+1)).foldl f (f o (l.getD i d)):=by
 rw[Df h,Aa,Ad h];rfl
theorem aKn{al:Int}{rs:List (List Int)}{ac:List Bool}(ha:cQ al=true)(h1:1<=rs.length)(h2:rs.length<=12)(h3:ac.length=rs.length)(hr:∀r∈rs,r.length=(aB al).length/\∀q∈r,0<=q/\q<rs.length):bX al rs ac=true:=by
 unfold bX;simp only[As,decide_eq_true_eq];refine⟨⟨⟨⟨ha,by omega⟩,by omega⟩,by omega⟩,?_⟩;rw[Option.isNone_iff_eq_none,lZ];intro i _ hi;have hi:i<rs.length:=om;obtain⟨hw,hq⟩:=hr (rs.getD i []) (by rw[Aa,Ad hi];exact At hi);unfold fP;rw[QK om]
 have:seek (badQ rs.length (rs.getD i [])) (rs.getD i []).length 0=none:=by
  rw[lZ];intro j _ hj;have hj:j<(rs.getD i []).length:=om;rw[zN];refine hq _ ?_;generalize rs.getD i []=r at *;rw[Aa,Ad hj];exact At hj
 rw[this];rfl
theorem kN{al:Int}{rs:List (List Int)}{ac:List Bool}(h:bX al rs ac=true){i:Nat}(hi:i<rs.length):(rs.getD i []).length=(aB al).length/\∀j,j<(aB al).length->0<=(rs.getD i []).getD j 0/\(rs.getD i []).getD j 0<rs.length:=by
 have hw:=aFG (pI h) hi;refine⟨hw,?_⟩;intro j hj;unfold bX at h;simp only[As]at h;have hb:=HX h.2 hi;unfold fP at hb;rw[QK om]at hb
 have:=HX (p:=badQ rs.length (rs.getD i [])) (n:=(rs.getD i []).length) (by cases hs:seek (badQ rs.length (rs.getD i [])) (rs.getD i []).length 0 with
  |none=>rfl
  |some z=>rw[hs]at hb;cases hb) (i:=j) om
 exact zN.1 this
theorem aBs{al:Int}{rs:List (List Int)}{ac:List Bool}(h:bX al rs ac=true){q l:Int}(hq0:0<=q)(hq1:q<rs.length)(h0:0<=l)(h1:l<6):0<=goI al rs q l/\goI al rs q l<rs.length:=by
 unfold goI
 split
 ·rename_i hb
  exact(kN h (i:=q.toNat) om).2 _ (xS h0 h1 hb).1
 ·exact⟨hq0,hq1⟩
theorem aBX{l:Int}:eV l=true↔0<=l/\l<6:=by unfold eV;simp
def stGo(al:Int)(rs:List (List Int))(w:List UInt8)(q:Int):Int:=w.foldl (fun q b=>goI al rs q (ltr b)) q
def pK(al:Int)(rs:List (List Int))(ac:List Bool)(w:List UInt8):Int:=if bX al rs ac&&dU al w then stGo al rs w 0 else -1
theorem oH{al:Int}{w:List UInt8}(hw:dU al w=true):cQ al=true/\w.length<=50000/\∀b∈w,okB b=true/\cO al (ltr b)=true:=by
 unfold dU at hw;simp only[As,decide_eq_true_eq]at hw;refine⟨hw.1.1,hw.1.2,?_⟩;intro b hb;have:=Bg.1 hw.2 b hb;unfold inB at this
 simpa only[As]using this
section
def goS(a:Aut)(v l:Int):Int:=goI a.al a.nx v l
def rowA(a:Aut)(v:Int):List Int:=a.nx.getD v.toNat []
def ordA(a:Aut):List Int:=ordB (goS a) (aB a.al) (a.nx.length+1) 0 [0]
def idxU(out:List Int)(x:Int):Int:=(out.idxOf x:Nat)
def bO(a:Aut):Aut:=⟨a.al,(ordA a).map fun v=>(rowA a v).map (idxU (ordA a)),(ordA a).map fun v=>a.ac.getD v.toNat false⟩
theorem aFC{a:Aut}(h:AOK a):∀v l:Int,0<=v->v<a.nx.length->l∈aB a.al->0<=goS a v l/\goS a v l<a.nx.length:=by
 intro v l h0 h1 hl;have:=cK l hl;exact nV h h0 h1 this.1 om
theorem aNV{al:Int}{k:Nat}(hk:k<(aB al).length):gK al (aB al)[k]=k:=by
 obtain⟨⟨h0,h1⟩,hb⟩:=jB.1 (At hk);obtain⟨h2,h3⟩:=xS h0 h1 hb;rw[Ad h2]at h3;exact(List.getElem_inj (RT al)).1 (Option.some.inj h3)
theorem YK{a:Aut}(h:AOK a){v:Int}(h0:0<=v)(h1:v<a.nx.length):(aB a.al).map (goS a v)=rowA a v:=by
 have hl:=(kN h (i:=v.toNat) om).1;apply List.ext_getElem
 ·rw[Ao];exact hl.symm
 ·intro k g1 g2;rw[Ao]at g1;rw[Dy];unfold goS;rw[YN (jB.1 (At g1)).2,aNV g1];show(rowA a v).getD k 0=_;rw[Aa,Ad g2];rfl
theorem tZ{a:Aut}(h:AOK a):∃W,Bfs (goS a) (aB a.al) a.nx.length (ordA a).length [] (ordA a) W:=by
 obtain⟨_,_,h1,_,_⟩:=aV h;exact aMj (mH _) (aFC h) _ 0 [0] _ (Bfs.start om) om om
theorem aIR{a:Aut}:∀(w:List Int) (v u:Int),Path (nxS a) (aB a.al) v w u↔(∀l∈w,l∈aB a.al)/\w.foldl (goS a) v=u
 | [],v,u=>by simp[Path]
 |l::w,v,u=>by
  simp only[Path,nxS,Bp,exists_eq_left,aIR w,Di,List.forall_mem_cons];unfold goS;exact and_assoc.symm
theorem IL{a:Aut}{st:Int}{w:List Int}:Hits (nxS a) (aB a.al) [0] (glS st) w↔(∀l∈w,l∈aB a.al)/\w.foldl (goS a) 0=st:=by
 unfold Hits tE glS;simp only[Bp,exists_eq_left,aIR,decide_eq_true_eq]
 constructor
 ·rintro⟨u,⟨h1,h2⟩,rfl⟩;exact⟨h1,h2⟩
 ·rintro⟨h1,h2⟩;exact⟨st,⟨h1,h2⟩,rfl⟩
section
variable{a:Aut}{W:Nat->List Int}
theorem B3{x:Int}{out:List Int}(hx:x∈out):out.getD (out.idxOf x) 0=x/\out.idxOf x<out.length:=by
 have h:=El hx;refine⟨?_,h⟩;rw[Aa,Ad h,List.getElem_idxOf];rfl
theorem s7{q:Nat}{out:List Int}(hq:q<out.length):out.getD q 0∈out:=by
 rw[Aa,Ad hq];exact At hq
theorem HQ(h:AOK a)(hB:Bfs (goS a) (aB a.al) a.nx.length (ordA a).length [] (ordA a) W){q:Nat}(hq:q<(ordA a).length):oneG a ((ordA a).getD q 0)=(W q,true):=by
 refine sJ (GX h _) (.inl ⟨rfl,IL.2 ⟨hB.lts q hq,hB.run q hq⟩,fun x hx=> ?_⟩);obtain⟨h1,h2⟩:=IL.1 hx;obtain⟨p,hp,e,hs⟩:=hB.least x.length x rfl h1;have:p=q:=hB.idx hp hq (by rw[e,h2]);subst this;exact hs
theorem aQ8(h:AOK a){st:Int}(ho:st∉ordA a):oneG a st=([],false):=by
 obtain⟨W,hB⟩:=tZ h;refine sJ (GX h _) (.inr ⟨rfl,fun w hw=> ?_⟩);obtain⟨h1,h2⟩:=IL.1 hw;obtain⟨p,hp,e,_⟩:=hB.least w.length w rfl h1;rw[h2]at e;exact ho (e▸s7 hp)
theorem PX(hB:Bfs (goS a) (aB a.al) a.nx.length (ordA a).length [] (ordA a) W){v l:Int}(hv:v∈ordA a)(hl:l∈aB a.al):goS a v l∈ordA a:=by
 obtain⟨e,hq⟩:=B3 hv;obtain⟨p,hp,e2,_⟩:=hB.clo _ l hq hl (.inl hq);rw[e]at e2;exact e2▸s7 hp
theorem H9(h:AOK a):AOK (bO a):=by
 obtain⟨W,hB⟩:=tZ h;obtain⟨b1,b2,b3,b4⟩:=fW h;have hn:=iF hB.nod hB.rng;have hp:=hB.pos;unfold AOK bO;refine aKn b4 (by rw[Ao];omega) (by rw[Ao];omega) (by rw[Ao,Ao]) ?_;intro r hr;obtain⟨v,hv,rfl⟩:=Bf.1 hr;obtain⟨v0,v1⟩:=hB.rng v hv;have hrow:=YK h v0 v1;refine⟨by rw[Ao,<-hrow,Ao],?_⟩;intro q hq;obtain⟨x,hx,rfl⟩:=Bf.1 hq;rw[<-hrow]at hx;obtain⟨l,hl,rfl⟩:=Bf.1 hx;have:=(B3 (PX hB hv hl)).2;unfold idxU;rw[Ao];omega
theorem aSa(h:AOK a)(hB:Bfs (goS a) (aB a.al) a.nx.length (ordA a).length [] (ordA a) W){q:Nat}(hq:q<(ordA a).length){l:Int}(hl:l∈aB a.al):goS (bO a) q l=idxU (ordA a) (goS a ((ordA a).getD q 0) l):=by
 obtain⟨⟨h0,h1⟩,hb⟩:=jB.1 hl;obtain⟨v0,v1⟩:=hB.rng _ (s7 hq);obtain⟨p1,p2⟩:=xS h0 h1 hb;have hlen:=(kN h (i:=((ordA a).getD q 0).toNat) om).1
 have e1:((bO a).nx.getD q [])=(rowA a ((ordA a).getD q 0)).map (idxU (ordA a)):=by
  unfold bO;simp only[Aa,Bd,Ad hq,Az,Bb]
 unfold goS;rw[YN hb,YN (show cO (bO a).al l=true from hb),Cn,e1];show((rowA a ((ordA a).getD q 0)).map (idxU (ordA a))).getD (gK a.al l) 0=_;have hr:gK a.al l<(rowA a ((ordA a).getD q 0)).length:=by unfold rowA;omega
 rw[Aa,Bd,Ad hr,Aa (l:=a.nx.getD _ _)];show idxU _ (rowA a ((ordA a).getD q 0))[gK a.al l]=idxU _ ((rowA a ((ordA a).getD q 0))[gK a.al l]?.getD 0);rw[Ad hr];rfl
theorem aIV(h:AOK a)(hB:Bfs (goS a) (aB a.al) a.nx.length (ordA a).length [] (ordA a) W):∀(w:List Int) (q:Nat),q<(ordA a).length->(∀l∈w,l∈aB a.al)->w.foldl (goS a) ((ordA a).getD q 0)∈ordA a/\w.foldl (goS (bO a)) (q:Int)=idxU (ordA a) (w.foldl (goS a) ((ordA a).getD q 0))
 | [],q,hq,_=>by
  refine⟨s7 hq,?_⟩;unfold idxU;simp only[List.foldl_nil];have:=hB.nod.idxOf_getElem q hq;rw[Aa,Ad hq,Bb,this]
 |l::w,q,hq,hw=>by
  have hl:=hw l Bi;obtain⟨e,hp⟩:=B3 (PX hB (s7 hq) hl);have ih:=aIV h hB w _ hp fun m hm=>hw m (Be _ hm);rw[e]at ih;simp only[Di];rw[aSa h hB hq hl];exact ih
theorem aPw(h:AOK a)(hB:Bfs (goS a) (aB a.al) a.nx.length (ordA a).length [] (ordA a) W){q:Nat}(hq:q<(ordA a).length):oneG (bO a) q=(W q,true):=by
 rw[<-HQ h hB hq];refine sJ (aEB (fun w=> ?_) (GX (H9 h) q)) (GX h _);rw[IL,IL];show(∀l∈w,l∈aB a.al)/\_↔_;refine and_congr_right fun hw=> ?_;obtain⟨h1,h2⟩:=aIV h hB w 0 hB.pos hw;rw[hB.o0]at h1 h2;have h3:w.foldl (goS (bO a)) 0=idxU (ordA a) (w.foldl (goS a) 0):=h2;rw[h3];obtain⟨e,hp⟩:=B3 h1;unfold idxU
 constructor
 ·intro hh;have:(ordA a).idxOf (w.foldl (goS a) 0)=q:=om;rw[this]at e;exact e.symm
 ·intro hh;rw[hB.idx hp hq (by rw[e,hh])]
end
theorem aGr{l:Int}(h0:0<=l)(h1:l<6):(cN l).toNat=(97+l).toNat:=by
 unfold cN;rw[UInt8.toNat_ofNat'];omega
theorem aMu:∀ {u v:List Int},(∀l∈u,0<=l/\l<6)->(∀l∈v,0<=l/\l<6)->rG u v->Op.bytesLess (txt u) (txt v)=true
 | [],_,_,_,h=>h.elim
 |_::_,[],_,_,h=>h.elim
 |a::u,b::v,hu,hv,h=>by
  have ha:=hu a Bi;have hb:=hv b Bi;show Op.bytesLess (cN a::txt u) (cN b::txt v)=true;rw[nZ,aGr ha.1 ha.2,aGr hb.1 hb.2]
  rcases h with h|⟨rfl,h⟩
  ·exact .inl om
  ·exact .inr ⟨rfl,aMu (fun l hl=>hu l (Be _ hl)) (fun l hl=>hv l (Be _ hl)) h⟩
theorem aR5{u v:List Int}(hu:∀l∈u,0<=l/\l<6)(hv:∀l∈v,0<=l/\l<6)(h:slt u v):cmpX (txt u) (txt v)<0:=by
 rw[BD];unfold txt;rw[Ao,Ao]
 rcases h with h|⟨h1,h⟩
 ·exact .inl h
 ·exact .inr ⟨h1,aMu hu hv h⟩
def cH(a:Aut):List Str:=(List.range (ordA a).length).map fun q=>txt (oneG a ((ordA a).getD q 0)).1
def gX(a:Aut)(j i:Nat):List Str:=(List.range' i j).filterMap fun q=>if(oneG a (q:Nat)).2=true then some (txt (oneG a (q:Nat)).1)else none
def aCJ(l:List Str):List Str:=l.mergeSort leX
section
variable{a:Aut}{W:Nat->List Int}
theorem D5(h:AOK a)(hB:Bfs (goS a) (aB a.al) a.nx.length (ordA a).length [] (ordA a) W):cH a=(List.range (ordA a).length).map fun q=>txt (W q):=by
 unfold cH;apply Ec;intro q hq;rw[HQ h hB (Ch.1 hq)]
theorem Y3(hB:Bfs (goS a) (aB a.al) a.nx.length (ordA a).length [] (ordA a) W){j k:Nat}(hjk:j<k)(hk:k<(ordA a).length):cmpX (txt (W j)) (txt (W k))<0:=by
 have hin:∀q,q<(ordA a).length->∀l∈W q,0<=l/\l<6:=fun q hq l hl=>by
  have:=cK l (hB.lts q hq l hl);omega
 exact aR5 (hin j om) (hin k hk) (hB.asc j k hjk hk)
theorem aQz(hB:Bfs (goS a) (aB a.al) a.nx.length (ordA a).length [] (ordA a) W){j k:Nat}(hj:j<(ordA a).length)(hk:k<(ordA a).length)(e:txt (W j)=txt (W k)):j=k:=by
 rcases Dd j k with h|h|h
 ·have:=Y3 hB h hk;rw[e]at this;exact(GY _ this).elim
 ·exact h
 ·have:=Y3 hB h hj;rw[e]at this;exact(GY _ this).elim
theorem aPg(hB:Bfs (goS a) (aB a.al) a.nx.length (ordA a).length [] (ordA a) W):((List.range (ordA a).length).map fun q=>txt (W q)).Pairwise fun x y=>cmpX x y<0:=by
 rw[List.pairwise_map];refine List.Pairwise.imp_of_mem ?_ (List.pairwise_lt_range (n:=(ordA a).length));intro j k hj hk hjk;exact Y3 hB hjk (Ch.1 hk)
theorem aMZ(h:AOK a):aCJ (gX a a.nx.length 0)=cH a:=by
 obtain⟨W,hB⟩:=tZ h;rw[D5 h hB];have hasc:=aPg hB
 have hfd:∀(q:Nat) (b:Str),(if(oneG a (q:Nat)).2=true then some (txt (oneG a (q:Nat)).1)else none)=some b->∃p,p<(ordA a).length/\(ordA a).getD p 0=(q:Int)/\b=txt (W p):=by
  intro q b hb
  by_cases hq:(q:Int)∈ordA a
  ·obtain⟨e,hp⟩:=B3 hq;have:=HQ h hB hp;rw[e]at this;rw[this]at hb;simp at hb;exact⟨_,hp,e,hb.symm⟩
  ·rw[aQ8 h hq]at hb;simp at hb
 unfold aCJ;refine((List.mergeSort_perm _ _).trans ((List.perm_ext_iff_of_nodup ?_ ?_).2 ?_)).eq_of_pairwise (fun x y _ _ h1 h2=>aBH h1 h2) (List.pairwise_mergeSort KQ K0 _) (hasc.imp aPt)
 ·unfold gX;refine List.Pairwise.filterMap _ ?_ (List.nodup_range' (s:=0) (n:=a.nx.length));intro p q hpq b hb c hc e;obtain⟨p1,g1,g2,g3⟩:=hfd p b hb;obtain⟨q1,k1,k2,k3⟩:=hfd q c hc;have:=aQz hB g1 k1 (by rw[<-g3,<-k3,e]);subst this;rw[g2]at k2;exact hpq om
 ·exact hasc.imp fun {x y} hxy e=>by rw[e]at hxy;exact GY _ hxy
 ·intro b;unfold gX;rw[List.mem_filterMap,Bf]
  constructor
  ·rintro⟨q,hq,hb⟩;obtain⟨p,h1,_,h3⟩:=hfd q b hb;exact⟨p,Ch.2 h1,h3.symm⟩
  ·rintro⟨p,hp,rfl⟩;have hp:=Ch.1 hp;obtain⟨v0,v1⟩:=hB.rng _ (s7 hp);refine⟨((ordA a).getD p 0).toNat,?_,?_⟩
   ·rw[Ct];omega
   ·rw[Bx v0,HQ h hB hp,if_pos rfl]
end
end
end Ev
end Go.Proofs.YtppffbehejpglaaGreat
