/-
  The first word that tells two states of automata apart, walked: the program's and the reference's.
-/
import Derived.Test.YthlkcebdfbjdoaaGreatPathZ
import Derived.Test.YthlkcebdfbjdoaaGreatDraw2
import Derived.Test.YthlkcebdfbjdoaaGreatWordAt
import Derived.Test.YthlkcebdfbjdoaaGreatMemS
import Derived.Test.YthlkcebdfbjdoaaGreatPrimX
set_option linter.unusedSimpArgs false
set_option linter.unusedVariables false
set_option linter.unusedSectionVars false
set_option maxRecDepth 8000
set_option maxHeartbeats 4000000
namespace Go.Proofs.YthlkcebdfbjdoaaGreat
namespace Ev
section
variable{R:Type}{L n:Nat}
theorem aV{a:Aut}(h:AOK a):aW a.nx/\vZ (aB a.al).length a.nx/\1<=a.nx.length/\a.nx.length<=12/\a.ac.length=a.nx.length:=by
 obtain⟨a1,a2,a3,a4⟩:=iC h;have aw:=oX h;exact⟨⟨by omega,fun r hr=>by have:=aw r hr;have:=bP a.al;omega⟩,aw,a1,a2,a3⟩
def tabP(a:Aut):D:=.iptr [.ivs a.nx.length (ints (pI a.al a.nx))]
def autP(a:Aut):D:=.iptr [.int .i64 a.al,.ivs a.nx.length (aI a.nx),.ivs a.ac.length (aD a.ac)]
def inP(a b:Aut)(x:Int):Prop:=0<=x/\x<(a.nx.length:Int)*b.nx.length
theorem S2(hn:1<=n){a b:Aut}(ha:AOK a)(hb:AOK b){x c:Int}(hx:inP a b x)(hc0:0<=c)(hc6:c<6)(o:List Int)(ho:o.length<=2147483648):
  aA env L n 93 [nI x,nI c,.sl 0 0 0 o.length,.d (tabP a),.d (.iptr [.int .i64 b.nx.length]),.d (tabP b)] [.arr (ints o) 1 0]=some (.sl 0 (nxT a b x c).length 0 (o++nxT a b x c).length,[.arr (ints (o++nxT a b x c)) 1 (nxT a b x c).length]):=by
 obtain⟨sa,wa,a1,a2,a3⟩:=aV ha;obtain⟨sb,wb,b1,b2,b3⟩:=aV hb;obtain⟨p,q⟩:=AT (na:=a.nx.length) (nb:=b.nx.length) om hx.1 hx.2;have ga:=nL ha p.1 p.2 hc0 hc6;have gb:=nL hb q.1 q.2 hc0 hc6;have hla:=kB a.al a.nx;have hlb:=kB b.al b.nx;have hta:=X5 (al:=a.al) p.1 p.2 hc0 hc6;have htb:=X5 (al:=b.al) q.1 q.2 hc0 hc6;rw[Ck]at hta htb
 have hprod:(a.nx.length:Int)*b.nx.length<=144:=by
  have h1:(a.nx.length:Int)*b.nx.length<=12*b.nx.length:=Ee om om;omega
 have hx1:=hx.2;have hin:=F0 ga gb;have hm0:0<=goI a.al a.nx (x.tdiv b.nx.length) c*b.nx.length:=Int.mul_nonneg ga.1 om;have hb0:¬(b.nx.length:Int)=0:=om;unfold nxT tabP;have d1:(x.tdiv b.nx.length).toNat*6<=a.nx.length*6:=om;have d2:(x.tmod b.nx.length).toNat*6<=b.nx.length*6:=om;have d3:c.toNat<a.nx.length*6-(x.tdiv b.nx.length).toNat*6:=om;have d4:c.toNat<b.nx.length*6-(x.tmod b.nx.length).toNat*6:=om;generalize goI a.al a.nx (x.tdiv b.nx.length) c=g1 at *;generalize goI b.al b.nx (x.tmod b.nx.length) c=g2 at *;obtain⟨x0,x1⟩:=hx;obtain⟨p0,p1⟩:=p;obtain⟨q0,q1⟩:=q;have xs:x<=144:=om;have hl1:((List.length [g1*(b.nx.length:Int)+g2]))=1:=rfl;clear ha hb sa sb wa wb x1;obtain _|n:=n;omega
 simp-implicitDefEqProofs (maxSteps:=9^7) (disch:=try exact Dz) only[↓DN,↓kAsg,↓kRet,UP,simprocAttr,hla,hlb,hta,htb,p0,p1,q0,q1,Cf,Ck,hl1,S6,CC,Tryz.f93]
theorem aMj{R:Type}{L n id:Nat}{hq:H}{k:KA R}(hn:1<=n){a b:Aut}(ha:AOK a)(hb:AOK b)(x c:Int)(o:List Int)(hx:inP a b x)(hc0:0<=c)(hc6:c<6)(ho:o.length<=2147483648)(hid:hq[id]? =some (.arr (ints o) 1 0)):
  aZ env (aA env L n) hq 93 (nI x::nI c::.sl id 0 0 o.length::[tabP a,.iptr [.int .i64 b.nx.length],tabP b].map A.d) k
  =k (.sl id (nxT a b x c).length 0 (o++nxT a b x c).length) (hq.set id (.arr (ints (o++nxT a b x c)) 1 (nxT a b x c).length)):=by
 refine P6 hid (by simp[idsL,idsA]) nJ ?_;have hpl:aJ [id] id=some 0:=by simp[aJ]
 simp only[Ai,Aq,aF,mapA,hpl];exact S2 hn ha hb hx hc0 hc6 o ho
theorem aS7:dM env.P 74=some false:=kr
theorem S5(hn:2<=n){a b:Aut}{f:Bool->Bool->Bool}{go:FuncId}(hm:(env.hint go).mode=0)(kc_o:∀(x y:Bool) {R:Type} {n:Nat} {hq:H} {k:KA R},1<=n->aZ env (aA env L n) hq go [.d (.bool x),.d (.bool y)] k=k (.d (.bool (f x y))) hq)(ha:AOK a)(hb:AOK b){x:Int}(hx:inP a b x):
  aA env L n 95 [nI x,.d (.iptr [.fn go []]),.d (autP a),.d (.iptr [.int .i64 b.nx.length]),.d (autP b)] []=some (.d (.bool (glT f a b x)),[]):=by
 obtain⟨sa,wa,a1,a2,a3⟩:=aV ha;obtain⟨sb,wb,b1,b2,b3⟩:=aV hb;obtain⟨p,q⟩:=AT (na:=a.nx.length) (nb:=b.nx.length) om hx.1 hx.2
 have hprod:(a.nx.length:Int)*b.nx.length<=144:=by
  have h1:(a.nx.length:Int)*b.nx.length<=12*b.nx.length:=Ee om om;omega
 have hb0:¬(b.nx.length:Int)=0:=om;have e1:(x.tdiv b.nx.length).toNat<a.ac.length:=om;have e2:(x.tmod b.nx.length).toNat<b.ac.length:=om;have e3:x.tdiv b.nx.length<(a.ac.length:Int):=om;have e4:x.tmod b.nx.length<(b.ac.length:Int):=om;obtain⟨x0,x1⟩:=hx;obtain⟨p0,p1⟩:=p;obtain⟨q0,q1⟩:=q;have xs:x<=144:=om;have kc_p:=fun {R:Type} {n:Nat} {hq:H} {k:KA R} (hn:1<=n)=>kc_o (a.ac.getD (x.tdiv b.nx.length).toNat false) (b.ac.getD (x.tmod b.nx.length).toNat false) (R:=R) (n:=n) (hq:=hq) (k:=k) hn;unfold glT autP;clear ha hb sa sb wa wb x1 kc_o;obtain _|n:=n;omega
 simp-implicitDefEqProofs (maxSteps:=9^7) (disch:=try exact Dz) only[↓DN,↓kAsg,↓kRet,UP,simprocAttr,LA,aS7,hm,p0,e3,q0,e4,e1,e2,↓kc_p,SU,CY,Tryz.f95]
theorem aNc{hq:H}{k:KA R}(hn:2<=n){a b:Aut}{f:Bool->Bool->Bool}{go:FuncId}(hm:(env.hint go).mode=0)(kc_o:∀(x y:Bool) {R:Type} {n:Nat} {hq:H} {k:KA R},1<=n->aZ env (aA env L n) hq go [.d (.bool x),.d (.bool y)] k=k (.d (.bool (f x y))) hq)(ha:AOK a)(hb:AOK b)(x:Int)(hx:inP a b x):
  aZ env (aA env L n) hq 95 (nI x::[.iptr [.fn go []],autP a,.iptr [.int .i64 b.nx.length],autP b].map A.d) k=k (.d (.bool (glT f a b x))) hq:=
 bZ rfl (S5 hn hm kc_o ha hb hx) rfl (.inl rfl)
theorem aBf{L:Nat}{a b:A}{id g o len f1 f2:Nat}{c1 c2:List A}:KV L 94 [a,.sl id g o len,b,.clo f1 c1,.clo f2 c2]:=fun _ _ _ _=>eB o7
theorem aTb{v:Int}:ints [v]=[.int .i64 v]:=rfl
theorem aA7(hn:8<=n)(hL:2^60<=L){a b:Aut}{f:Bool->Bool->Bool}{go:FuncId}(hm:(env.hint go).mode=0)(kc_o:∀(x y:Bool) {R:Type} {n:Nat} {hq:H} {k:KA R},1<=n->aZ env (aA env L n) hq go [.d (.bool x),.d (.bool y)] k=k (.d (.bool (f x y))) hq)(ha:AOK a)(hb:AOK b){i j:Int}(hi:0<=i/\i<a.nx.length)(hj:0<=j/\j<b.nx.length):
  aA env L n 56 [.agg [nI a.al,.d (.ivs a.nx.length (aI a.nx)),.d (.ivs a.ac.length (aD a.ac))],.agg [nI b.al,.d (.ivs b.nx.length (aI b.nx)),.d (.ivs b.ac.length (aD b.ac))],nI i,nI j,.d (.fn go [])] []=some (.tup [.d (.str (txt (twoG f a b i j).1)),.d (.bool (twoG f a b i j).2)],[]):=by
 obtain⟨sa,wa,a1,a2,a3⟩:=aV ha;obtain⟨sb,wb,b1,b2,b3⟩:=aV hb
 have hprod:(a.nx.length:Int)*b.nx.length<=144:=by
  have h1:(a.nx.length:Int)*b.nx.length<=12*b.nx.length:=Ee om om;omega
 have hprodN:a.nx.length*b.nx.length<=144:=by
  have:=hprod;rw[<-Cg]at this;omega
 have hin:=F0 hi hj
 have hp:=fun {n:Nat} (hn:7<=n)=> @M7 L n hn hL (inP a b) (glT f a b) 93 95 [tabP a,.iptr [.int .i64 b.nx.length],tabP b] [.iptr [.fn go []],autP a,.iptr [.int .i64 b.nx.length],autP b] (a.nx.length*b.nx.length) (nxT a b) (aB a.al) [i*b.nx.length+j]
  (fun {R n id hq k} x c o h4 hI h0 h6 ho hid=>aMj om ha hb x c o hI h0 h6 ho hid)
  (fun {R n hq k} x h2 hI=>aNc h2 hm kc_o ha hb x hI)
  (fun x hI=>by rw[Cg];exact hI) om (fun x hx=>by simp at hx;subst hx;exact hin) (fun x c hI h0 h6 y hy=>X9 ha hb hI.1 hI.2 ⟨h0,h6⟩ y hy) (fun x c=>by simp[nxT]) cK (bP a.al) sm (by
   have:0<(a.nx.length:Int)*b.nx.length:=Int.mul_pos om om;rw[<-Cg]at this;simp only[Ad,Ac];omega)
 have kl_p:=fun {R:Type} {n:Nat} {k:A->Option R} (hn:7<=n)=>mH (k:=k) (hp (n:=n) hn) rfl;have er:FD (nxT a b) (glT f a b) (aB a.al) [i*b.nx.length+j] (a.nx.length*b.nx.length)=twoG f a b i j:=rfl;rw[er]at kl_p;simp only[aTb,Ad,Ac,Ag,Cg,tabP,autP]at kl_p;have hi2:0<=i*(b.nx.length:Int):=Int.mul_nonneg hi.1 om;obtain⟨i0,i1⟩:=hi;obtain⟨j0,j1⟩:=hj;obtain⟨n0,n1⟩:=hin;have hm0:0<=(a.nx.length:Int)*b.nx.length:=om;have hla:=kB a.al a.nx;have hlb:=kB b.al b.nx;clear hp kc_o ha hb er;generalize twoG f a b i j=r at *;obtain _|n:=n;omega
 simp-implicitDefEqProofs (maxSteps:=9^7) (disch:=try exact Dz) only[↓DN,↓kAsg,↓kRet,UP,simprocAttr,↓GR,↓kP,↓aBf,↓kl_p,aAY,K5,Tryz.f56]
def NZ(a:Aut)(i j:Int):Bool:=b8 a.al a.nx a.ac&&(decide (0<=i)&&decide (i<a.nx.length))&&(decide (0<=j)&&decide (j<a.nx.length))
def jI(a:Aut)(i j:Int):List Int×Bool:=if NZ a i j=true then twoG (fun x y=>x !=y) a a i j else([],false)
theorem S0(hn:1<=n)(x y:Bool):aA env L n 83 [.d (.bool x),.d (.bool y)] []=some (.d (.bool (x !=y)),[]):=by
 obtain _|n:=n;omega
 simp-implicitDefEqProofs (maxSteps:=9^7) (disch:=try exact Dz) only[↓DN,↓kAsg,↓kRet,UP,simprocAttr,S7,DF,Tryz.f83]
 all_goals (cases x<;>cases y<;>rfl)
theorem S1{hq:H}{k:KA R}(hn:1<=n)(x y:Bool):aZ env (aA env L n) hq 83 [.d (.bool x),.d (.bool y)] k=k (.d (.bool (x !=y))) hq:=
 bZ rfl (S0 hn x y) rfl (.inl rfl)
theorem H6(hn:9<=n)(a:Aut)(i j:Int)(hs:aW a.nx)(hac:a.ac.length<=4294967296)(hL:2^60<=L):aA env L n 46 [.agg [nI a.al,.d (.ivs a.nx.length (aI a.nx)),.d (.ivs a.ac.length (aD a.ac))],nI i,nI j] []=some (.tup [.d (.str (txt (jI a i j).1)),.d (.bool (jI a i j).2)],[]):=by
 have hrl:=hs.1;unfold jI NZ
 cases hv:b8 a.al a.nx a.ac with
 |false=>
  simp only[Cu,Ak,if_false,txt,Aq];obtain _|n:=n;omega
  simp-implicitDefEqProofs (maxSteps:=9^7) (disch:=try exact Dz) only[↓DN,↓kAsg,↓kRet,UP,simprocAttr,↓a6,hv,iY,gX,Tryz.f46]
 |true=>
  by_cases h1:0<=i
  ·by_cases h2:i<a.nx.length
   ·by_cases h3:0<=j
    ·by_cases h4:j<a.nx.length
     ·simp only[h1,h2,h3,h4,decide_true,Bv,if_true];have kl_b:=fun {R:Type} {n:Nat} {k:A->Option R} (hn:8<=n)=>mH (call:=aA env L n) (k:=k) (f:=56) (@aA7 L n hn hL a a (fun x y=>x !=y) 83 nO (fun x y {R n hq k} hn=>S1 hn x y) hv hv i j ⟨h1,h2⟩ ⟨h3,h4⟩) rfl;have kv_l:=fun {R:Type} {n:Nat} {hq:H} {args:List A} {k:KA R}=>eB (E:=env) (call:=aA env L n) (h:=hq) (k:=k) (args:=args) rW;generalize twoG (fun x y=>x !=y) a a i j=r at *;have g1:¬i<0:=om;have g2:¬(a.nx.length:Int)<=i:=om;have g3:¬j<0:=om;have g4:¬(a.nx.length:Int)<=j:=om;obtain _|n:=n;omega
      simp-implicitDefEqProofs (maxSteps:=9^7) (disch:=try exact Dz) only[↓DN,↓kAsg,↓kRet,UP,simprocAttr,↓a6,hv,g1,g2,g3,g4,↓kv_l,↓kl_b,iY,gX,Tryz.f46]
     ·simp only[h1,h2,h3,h4,decide_true,decide_false,Bv,Di,Ak,if_false,txt,Aq];have g1:¬i<0:=om;have g2:¬(a.nx.length:Int)<=i:=om;have g3:¬j<0:=om;have g4:(a.nx.length:Int)<=j:=om;obtain _|n:=n;omega
      simp-implicitDefEqProofs (maxSteps:=9^7) (disch:=try exact Dz) only[↓DN,↓kAsg,↓kRet,UP,simprocAttr,↓a6,hv,g1,g2,g3,g4,iY,gX,Tryz.f46]
    ·simp only[h1,h2,h3,decide_true,decide_false,Bv,Di,Cu,Ak,if_false,txt,Aq];have g1:¬i<0:=om;have g2:¬(a.nx.length:Int)<=i:=om;have g3:j<0:=om;obtain _|n:=n;omega
     simp-implicitDefEqProofs (maxSteps:=9^7) (disch:=try exact Dz) only[↓DN,↓kAsg,↓kRet,UP,simprocAttr,↓a6,hv,g1,g2,g3,iY,gX,Tryz.f46]
   ·simp only[h1,h2,decide_true,decide_false,Di,Cu,Ak,if_false,txt,Aq];have g1:¬i<0:=om;have g2:(a.nx.length:Int)<=i:=om;obtain _|n:=n;omega
    simp-implicitDefEqProofs (maxSteps:=9^7) (disch:=try exact Dz) only[↓DN,↓kAsg,↓kRet,UP,simprocAttr,↓a6,hv,g1,g2,iY,gX,Tryz.f46]
  ·simp only[h1,decide_false,Di,Cu,Ak,if_false,txt,Aq];have g1:i<0:=om;obtain _|n:=n;omega
   simp-implicitDefEqProofs (maxSteps:=9^7) (disch:=try exact Dz) only[↓DN,↓kAsg,↓kRet,UP,simprocAttr,↓a6,hv,g1,iY,gX,Tryz.f46]
theorem aBn:type_of% fun {L} a i j hs hac hL=>ks fun hn=> @H6 L _ hn a i j hs hac hL:=fun {L} a i j hs hac hL=>ks fun hn=> @H6 L _ hn a i j hs hac hL
theorem TW(hn:1<=n)(al:Int)(rs:List (List Int))(z:Nat)(cs:List D)(hrl:rs.length<=4294967296)(i:Int):aA env L n 104 [.agg [nI al,.d (.ivs rs.length (aI rs)),.d (.ivs z cs)],nI i] []=some (.d (.bool (decide (0<=i)&&decide (i<rs.length))),[]):=by
 by_cases h1:0<=i
 ·by_cases h2:i<rs.length
  ·simp only[h1,h2,decide_true,Bv];obtain _|n:=n;omega
   simp-implicitDefEqProofs (maxSteps:=9^7) (disch:=try exact Dz) only[↓DN,↓kAsg,↓kRet,UP,simprocAttr,h1,h2,IG,BQ,Tryz.f104]
  ·simp only[h1,h2,decide_true,decide_false,Di];obtain _|n:=n;omega
   simp-implicitDefEqProofs (maxSteps:=9^7) (disch:=try exact Dz) only[↓DN,↓kAsg,↓kRet,UP,simprocAttr,h1,h2,IG,BQ,Tryz.f104]
 ·simp only[h1,decide_false,Cu];obtain _|n:=n;omega
  simp-implicitDefEqProofs (maxSteps:=9^7) (disch:=try exact Dz) only[↓DN,↓kAsg,↓kRet,UP,simprocAttr,h1,IG,BQ,Tryz.f104]
theorem sC:type_of% fun {L} al rs z cs hrl i=>ks fun hn=> @TW L _ hn al rs z cs hrl i:=fun {L} al rs z cs hrl i=>ks fun hn=> @TW L _ hn al rs z cs hrl i
theorem G0(hn:12<=n)(a:Aut)(i j:Int)(hs:aW a.nx)(hac:a.ac.length<=4294967296)(hL:2^60<=L):aA env L n 75 [.agg [nI a.al,.d (.ivs a.nx.length (aI a.nx)),.d (.ivs a.ac.length (aD a.ac))],nI i,nI j] []=some (.tup [.d (.str (txt (jI a i j).1)),.d (.bool (jI a i j).2)],[]):=by
 have hrl:=hs.1;unfold jI NZ
 cases hv:b8 a.al a.nx a.ac with
 |false=>
  simp only[Cu,Ak,if_false,txt,Aq];obtain _|n:=n;omega
  simp-implicitDefEqProofs (maxSteps:=9^7) (disch:=try exact Dz) only[↓DN,↓kAsg,↓kRet,UP,simprocAttr,↓a8,hv,oZ,lQ,Tryz.f75]
 |true=>
  by_cases h1:0<=i/\i<a.nx.length
  ·by_cases h3:0<=j/\j<a.nx.length
   ·obtain⟨h1,h2⟩:=h1;obtain⟨h3,h4⟩:=h3;simp only[h1,h2,h3,h4,decide_true,Bv,if_true];have kc_b:=fun {R:Type} {n:Nat} {k:A->Option R} (hn:11<=n)=>mH (call:=aA env L n) (k:=k) (f:=105) (@aHu L n hn hL a a i j 1 hv hv rfl ⟨h1,h2⟩ ⟨h3,h4⟩ (.inl rfl)) rfl;simp only[if_true,gC,ints,Ai,Aq]at kc_b;have kl_b:=fun {R:Type} {n:Nat} {k:A->Option R} (hn:11<=n)=>kc_b (R:=R) (n:=n) (k:=k) hn;have kv_l:=fun {R:Type} {n:Nat} {hq:H} {args:List A} {k:KA R}=>eB (E:=env) (call:=aA env L n) (h:=hq) (k:=k) (args:=args) sX;clear kc_b;generalize twoG (fun x y=>x !=y) a a i j=r at *;obtain _|n:=n;omega
    simp-implicitDefEqProofs (maxSteps:=9^7) (disch:=try exact Dz) only[↓DN,↓kAsg,↓kRet,UP,simprocAttr,↓a8,↓sC,hv,h1,h2,h3,h4,↓kv_l,↓kl_b,oZ,lQ,Tryz.f75]
   ·have e3:(decide (0<=j)&&decide (j<a.nx.length))=false:=by
     rw[Bool.and_eq_false_iff,decide_eq_false_iff_not,decide_eq_false_iff_not];omega
    obtain⟨h1,h2⟩:=h1;simp only[h1,h2,e3,decide_true,Bv,Di,Ak,if_false,txt,Aq];obtain _|n:=n;omega
    simp-implicitDefEqProofs (maxSteps:=9^7) (disch:=try exact Dz) only[↓DN,↓kAsg,↓kRet,UP,simprocAttr,↓a8,↓sC,hv,h1,h2,e3,oZ,lQ,Tryz.f75]
  ·have e3:(decide (0<=i)&&decide (i<a.nx.length))=false:=by
    rw[Bool.and_eq_false_iff,decide_eq_false_iff_not,decide_eq_false_iff_not];omega
   simp only[e3,Di,Cu,Ak,if_false,txt,Aq];obtain _|n:=n;omega
   simp-implicitDefEqProofs (maxSteps:=9^7) (disch:=try exact Dz) only[↓DN,↓kAsg,↓kRet,UP,simprocAttr,↓a8,↓sC,hv,e3,oZ,lQ,Tryz.f75]
theorem aBX:type_of% fun {L} a i j hs hac hL=>ks fun hn=> @G0 L _ hn a i j hs hac hL:=fun {L} a i j hs hac hL=>ks fun hn=> @G0 L _ hn a i j hs hac hL
end
section
variable{R:Type}{L n:Nat}
def nxS(a:Aut)(v l:Int):List Int:=[goI a.al a.nx v l]
def glS(st v:Int):Bool:=decide (v=st)
def inS(a:Aut)(x:Int):Prop:=0<=x/\x<(a.nx.length:Int)
def oneG(a:Aut)(st:Int):List Int×Bool:=FD (nxS a) (glS st) (aB a.al) [0] a.nx.length
def accG(a:Aut)(st:Int):List Int×Bool:=if b8 a.al a.nx a.ac=true then oneG a st else([],false)
theorem N3{a:Aut}(ha:AOK a){v c:Int}(h0:0<=v)(h1:v<(a.nx.length:Int))(hc:0<=c/\c<6):∀m∈nxS a v c,0<=m/\m<(a.nx.length:Int):=by
 intro m hm;simp only[nxS,Bq]at hm;subst hm;exact nL ha h0 h1 hc.1 hc.2
theorem F1{a:Aut}(ha:AOK a)(st:Int):FR (Hits (nxS a) (aB a.al) [0] (glS st)) (oneG a st):=by
 obtain⟨_,_,h1,_,_⟩:=aV ha;refine aE9 (mN _) (fun p c h0 h1 hc=> ?_) (fun n hn=> ?_) sm
 ·have:=cK c hc;exact N3 ha h0 h1 om
 ·simp only[Bq]at hn;omega
theorem aFY{a:Aut}(ha:AOK a):∀(w:List Int) (v u:Int),0<=v->v<(a.nx.length:Int)->Path (nxS a) (aB a.al) v w u->0<=u/\u<(a.nx.length:Int)
 | [],v,u,h0,h1,h=>by simp only[Path]at h;subst h;exact⟨h0,h1⟩
 |l::w,v,u,h0,h1,h=>by
  simp only[Path]at h;obtain⟨hl,m,hm,hp⟩:=h;have:=cK l hl;have hr:=N3 ha h0 h1 ⟨this.1,by omega⟩ m hm;exact aFY ha w m u hr.1 hr.2 hp
theorem aRY{a:Aut}(ha:AOK a){st:Int}(h:¬(0<=st/\st<(a.nx.length:Int))):oneG a st=([],false):=by
 obtain⟨_,_,h1,_,_⟩:=aV ha
 rcases F1 ha st with⟨_,⟨u,⟨s,hs,hp⟩,hg⟩,_⟩|⟨he,_⟩
 ·simp only[Bq]at hs;subst hs;have:=aFY ha _ _ _ om om hp;simp only[glS,decide_eq_true_eq]at hg;subst hg;exact absurd this h
 ·exact he
theorem aSE{v:Int}:ints [v]=[.int .i64 v]:=rfl
theorem YJ(hn:1<=n){a:Aut}(ha:AOK a){x c:Int}(hx:inS a x)(hc0:0<=c)(hc6:c<6)(o:List Int)(ho:o.length<=2147483648):
  aA env L n 107 [nI x,nI c,.sl 0 0 0 o.length,.d (tabP a)] [.arr (ints o) 1 0]=some (.sl 0 (nxS a x c).length 0 (o++nxS a x c).length,[.arr (ints (o++nxS a x c)) 1 (nxS a x c).length]):=by
 obtain⟨sa,wa,a1,a2,a3⟩:=aV ha;have ga:=nL ha hx.1 hx.2 hc0 hc6;have hla:=kB a.al a.nx;have hta:=X5 (al:=a.al) hx.1 hx.2 hc0 hc6;rw[Ck]at hta;unfold nxS tabP;obtain⟨x0,x1⟩:=hx;have d1:x.toNat*6<=a.nx.length*6:=om;have d3:c.toNat<a.nx.length*6-x.toNat*6:=om;generalize goI a.al a.nx x c=g1 at *;have hl1:(List.length [g1])=1:=rfl;clear ha sa wa;obtain _|n:=n;omega
 simp-implicitDefEqProofs (maxSteps:=9^7) (disch:=try exact Dz) only[↓DN,↓kAsg,↓kRet,UP,simprocAttr,hla,hta,x0,x1,Cf,Ck,hl1,YD,HU,Tryz.f107]
theorem aMH{R:Type}{L n id:Nat}{hq:H}{k:KA R}(hn:1<=n){a:Aut}(ha:AOK a)(x c:Int)(o:List Int)(hx:inS a x)(hc0:0<=c)(hc6:c<6)(ho:o.length<=2147483648)(hid:hq[id]? =some (.arr (ints o) 1 0)):
  aZ env (aA env L n) hq 107 (nI x::nI c::.sl id 0 0 o.length::[tabP a].map A.d) k
  =k (.sl id (nxS a x c).length 0 (o++nxS a x c).length) (hq.set id (.arr (ints (o++nxS a x c)) 1 (nxS a x c).length)):=by
 refine P6 hid (by simp[idsL,idsA]) qG ?_;have hpl:aJ [id] id=some 0:=by simp[aJ]
 simp only[Ai,Aq,aF,mapA,hpl];exact YJ hn ha hx hc0 hc6 o ho
theorem XA(hn:1<=n)(x st:Int):aA env L n 80 [nI x,.d (.iptr [.int .i64 st])] []=some (.d (.bool (glS st x)),[]):=by
 unfold glS
 by_cases h:x=st
 ·subst h;obtain _|n:=n;omega
  simp-implicitDefEqProofs (maxSteps:=9^7) (disch:=try exact Dz) only[↓DN,↓kAsg,↓kRet,UP,simprocAttr,C9,t8,Tryz.f80]
 ·have h2:(x==st)=false:=by simpa using h
  have h3:decide (x=st)=false:=by simpa using h
  obtain _|n:=n;omega
  simp-implicitDefEqProofs (maxSteps:=9^7) (disch:=try exact Dz) only[↓DN,↓kAsg,↓kRet,UP,simprocAttr,h3,C9,t8,Tryz.f80]
theorem aFc(hn:8<=n)(hL:2^60<=L){a:Aut}(ha:AOK a)(st:Int):
  aA env L n 79 [.agg [nI a.al,.d (.ivs a.nx.length (aI a.nx)),.d (.ivs a.ac.length (aD a.ac))],.d (.fn 80 [.iptr [.int .i64 st]])] []=some (.tup [.d (.str (txt (oneG a st).1)),.d (.bool (oneG a st).2)],[]):=by
 obtain⟨sa,wa,a1,a2,a3⟩:=aV ha
 have hp:=fun {n:Nat} (hn:7<=n)=> @M7 L n hn hL (inS a) (glS st) 107 80 [tabP a] [.iptr [.int .i64 st]] a.nx.length (nxS a) (aB a.al) [0]
  (fun {R n id hq k} x c o h4 hI h0 h6 ho hid=>aMH om ha x c o hI h0 h6 ho hid)
  (fun {R n hq k} x h2 hI=>bZ rfl (XA om x st) rfl (.inl rfl))
  (fun x hI=>hI) om (fun x hx=>by simp at hx;subst hx;exact⟨by omega,by omega⟩) (fun x c hI h0 h6 y hy=>N3 ha hI.1 hI.2 ⟨h0,h6⟩ y hy) (fun x c=>by simp[nxS]) cK (bP a.al) sm (by simp only[Ad,Ac];omega)
 have kl_p:=fun {R:Type} {n:Nat} {k:A->Option R} (hn:7<=n)=>mH (k:=k) (hp (n:=n) hn) rfl;have er:FD (nxS a) (glS st) (aB a.al) [0] a.nx.length=oneG a st:=rfl;rw[er]at kl_p;simp only[aSE,Ad,Ac,Ag,tabP]at kl_p;have hla:=kB a.al a.nx;have kv_l:=fun {R:Type} {n:Nat} {hq:H} {args:List A} {k:KA R}=>eB (E:=env) (call:=aA env L n) (h:=hq) (k:=k) (args:=args) o7;clear hp ha er;generalize oneG a st=r at *;obtain _|n:=n;omega
 simp-implicitDefEqProofs (maxSteps:=9^7) (disch:=try exact Dz) only[↓DN,↓kAsg,↓kRet,UP,simprocAttr,↓GR,↓kP,↓kv_l,↓kl_p,aE0,RL,Tryz.f79]
theorem JM(hn:9<=n)(a:Aut)(st:Int)(hs:aW a.nx)(hac:a.ac.length<=4294967296)(hL:2^60<=L):aA env L n 44 [.agg [nI a.al,.d (.ivs a.nx.length (aI a.nx)),.d (.ivs a.ac.length (aD a.ac))],nI st] []=some (.tup [.d (.str (txt (accG a st).1)),.d (.bool (accG a st).2)],[]):=by
 have hrl:=hs.1;unfold accG
 cases hv:b8 a.al a.nx a.ac with
 |false=>
  simp only[Ak,if_false,txt,Aq];obtain _|n:=n;omega
  simp-implicitDefEqProofs (maxSteps:=9^7) (disch:=try exact Dz) only[↓DN,↓kAsg,↓kRet,UP,simprocAttr,↓a6,hv,LC,BI,Tryz.f44]
 |true=>
  simp only[if_true];have kl_b:=fun {R:Type} {n:Nat} {k:A->Option R} (hn:8<=n)=>mH (call:=aA env L n) (k:=k) (f:=79) (@aFc L n hn hL a hv st) rfl;have kv_l:=fun {R:Type} {n:Nat} {hq:H} {args:List A} {k:KA R}=>eB (E:=env) (call:=aA env L n) (h:=hq) (k:=k) (args:=args) vR;generalize oneG a st=r at *;obtain _|n:=n;omega
  simp-implicitDefEqProofs (maxSteps:=9^7) (disch:=try exact Dz) only[↓DN,↓kAsg,↓kRet,UP,simprocAttr,↓a6,hv,↓kv_l,↓kl_b,LC,BI,Tryz.f44]
theorem aCl:type_of% fun {L} a st hs hac hL=>ks fun hn=> @JM L _ hn a st hs hac hL:=fun {L} a st hs hac hL=>ks fun hn=> @JM L _ hn a st hs hac hL
end
theorem aSa:∀(a:Fin 64) (l m:Fin 6),cM (iOr .i64 (a.val:Int) (bitI (l.val:Int))) (m.val:Int)=(cM (a.val:Int) (m.val:Int)||decide (m.val=l.val)):=by decide+kernel
theorem aP9:∀(a:Fin 64) (l:Fin 6),0<=iOr .i64 (a.val:Int) (bitI (l.val:Int))/\iOr .i64 (a.val:Int) (bitI (l.val:Int))<=63:=by decide+kernel
theorem aSO{a l m:Int}(ha:cO a=true)(hl:eP l=true)(hm:eP m=true):cM (iOr .i64 a (bitI l)) m=(cM a m||decide (m=l)):=by
 unfold cO at ha;simp only[decide_eq_true_eq]at ha;have hl:=wW.1 hl;have hm:=wW.1 hm;have h:=aSa ⟨a.toNat,by omega⟩ ⟨l.toNat,by omega⟩ ⟨m.toNat,by omega⟩;simp only[Bx ha.1,Bx hl.1,Bx hm.1]at h;rw[h]
 congr 1
 have:(m.toNat=l.toNat)↔m=l:=om;simp only[this]
theorem aPv{a l:Int}(ha:cO a=true)(hl:eP l=true):cO (iOr .i64 a (bitI l))=true:=by
 unfold cO at ha|-;simp only[decide_eq_true_eq]at ha|-;have hl:=wW.1 hl;have h:=aP9 ⟨a.toNat,by omega⟩ ⟨l.toNat,by omega⟩
 simpa only[Bx ha.1,Bx hl.1]using h
def aHF(ls:List Int):Int:=ls.foldl (fun o l=>iOr .i64 o (bitI l)) 0
theorem aDK{ls:List Int}:∀ {a:Int},cO a=true->(∀l∈ls,eP l=true)->cO (ls.foldl (fun o l=>iOr .i64 o (bitI l)) a)=true/\∀m,eP m=true->cM (ls.foldl (fun o l=>iOr .i64 o (bitI l)) a) m=(cM a m||ls.any (fun l=>decide (m=l))):=by
 induction ls with
 |nil=>intro a ha _;exact⟨ha,fun m _=>by simp⟩
 |cons l ls ih=>
  intro a ha hl;have h1:=aPv ha (hl l sm);obtain⟨h2,h3⟩:=ih h1 (fun x hx=>hl x (by simp[hx]));refine⟨h2,fun m hm=> ?_⟩;rw[De,h3 m hm,aSO ha (hl l sm) hm,List.any_cons,Bool.or_assoc]
theorem aPp:∀m:Int,eP m=true->cM 0 m=false:=by
 intro m _;unfold cM;simp
theorem aKF{ls:List Int}(h:∀l∈ls,eP l=true):cO (aHF ls)=true:=(aDK (a:=0) rfl h).1
theorem aOn{ls:List Int}(h:∀l∈ls,eP l=true){m:Int}(hm:eP m=true):cM (aHF ls) m=ls.any (fun l=>decide (m=l)):=by
 have:=(aDK (a:=0) rfl h).2 m hm;rw[aPp m hm,Bool.false_or]at this;exact this
def xC(s:List UInt8):Int:=aHF (s.map ltr)
theorem aPN{β α:Type}{f:β->α->β}{l:List α}{i:Nat}{d:α}{o:β}(h:i<l.length):(l.drop i).foldl f o=(l.drop (i+1)).foldl f (f o (l.getD i d)):=by
 rw[Dk h,Aa,Ae h];rfl
theorem aIW{al:Int}{rs:List (List Int)}{ac:List Bool}(ha:cO al=true)(h1:1<=rs.length)(h2:rs.length<=12)(h3:ac.length=rs.length)(hr:∀r∈rs,r.length=(aB al).length/\∀q∈r,0<=q/\q<rs.length):b8 al rs ac=true:=by
 unfold b8;simp only[Ar,decide_eq_true_eq];refine⟨⟨⟨⟨ha,by omega⟩,by omega⟩,by omega⟩,?_⟩;rw[Option.isNone_iff_eq_none,lN];intro i _ hi;have hi:i<rs.length:=om;obtain⟨hw,hq⟩:=hr (rs.getD i []) (by rw[Aa,Ae hi];exact At hi);unfold fM;rw[PM om]
 have:seek (badQ rs.length (rs.getD i [])) (rs.getD i []).length 0=none:=by
  rw[lN];intro j _ hj;have hj:j<(rs.getD i []).length:=om;rw[yS];refine hq _ ?_;generalize rs.getD i []=r at *;rw[Aa,Ae hj];exact At hj
 rw[this];rfl
theorem kF{al:Int}{rs:List (List Int)}{ac:List Bool}(h:b8 al rs ac=true){i:Nat}(hi:i<rs.length):(rs.getD i []).length=(aB al).length/\∀j,j<(aB al).length->0<=(rs.getD i []).getD j 0/\(rs.getD i []).getD j 0<rs.length:=by
 have hw:=aEw (oX h) hi;refine⟨hw,?_⟩;intro j hj;unfold b8 at h;simp only[Ar]at h;have hb:=GS h.2 hi;unfold fM at hb;rw[PM om]at hb
 have:=GS (p:=badQ rs.length (rs.getD i [])) (n:=(rs.getD i []).length) (by cases hs:seek (badQ rs.length (rs.getD i [])) (rs.getD i []).length 0 with
  |none=>rfl
  |some z=>rw[hs]at hb;cases hb) (i:=j) om
 exact yS.1 this
theorem aAI{al:Int}{rs:List (List Int)}{ac:List Bool}(h:b8 al rs ac=true){q l:Int}(hq0:0<=q)(hq1:q<rs.length)(h0:0<=l)(h1:l<6):0<=goI al rs q l/\goI al rs q l<rs.length:=by
 unfold goI
 split
 ·rename_i hb
  exact(kF h (i:=q.toNat) om).2 _ (xE h0 h1 hb).1
 ·exact⟨hq0,hq1⟩
theorem aAT{l:Int}:eP l=true↔0<=l/\l<6:=by unfold eP;simp
def stGo(al:Int)(rs:List (List Int))(w:List UInt8)(q:Int):Int:=w.foldl (fun q b=>goI al rs q (ltr b)) q
def x4(al:Int)(rs:List (List Int))(ac:List Bool)(w:List UInt8):Int:=if b8 al rs ac&&dR al w then stGo al rs w 0 else -1
theorem n4{al:Int}{w:List UInt8}(hw:dR al w=true):cO al=true/\w.length<=50000/\∀b∈w,okB b=true/\cM al (ltr b)=true:=by
 unfold dR at hw;simp only[Ar,decide_eq_true_eq]at hw;refine⟨hw.1.1,hw.1.2,?_⟩;intro b hb;have:=Bg.1 hw.2 b hb;unfold inB at this
 simpa only[Ar]using this
section
def goS(a:Aut)(v l:Int):Int:=goI a.al a.nx v l
def rowA(a:Aut)(v:Int):List Int:=a.nx.getD v.toNat []
def ordA(a:Aut):List Int:=ordB (goS a) (aB a.al) (a.nx.length+1) 0 [0]
def idxU(out:List Int)(x:Int):Int:=(out.idxOf x:Nat)
def bO(a:Aut):Aut:=⟨a.al,(ordA a).map fun v=>(rowA a v).map (idxU (ordA a)),(ordA a).map fun v=>a.ac.getD v.toNat false⟩
theorem aEz{a:Aut}(h:AOK a):∀v l:Int,0<=v->v<a.nx.length->l∈aB a.al->0<=goS a v l/\goS a v l<a.nx.length:=by
 intro v l h0 h1 hl;have:=cK l hl;exact nL h h0 h1 this.1 om
theorem aOk{al:Int}{k:Nat}(hk:k<(aB al).length):gU al (aB al)[k]=k:=by
 obtain⟨⟨h0,h1⟩,hb⟩:=jA.1 (At hk);obtain⟨h2,h3⟩:=xE h0 h1 hb;rw[Ae h2]at h3;exact(List.getElem_inj (RJ al)).1 (Option.some.inj h3)
theorem XT{a:Aut}(h:AOK a){v:Int}(h0:0<=v)(h1:v<a.nx.length):(aB a.al).map (goS a v)=rowA a v:=by
 have hl:=(kF h (i:=v.toNat) om).1;apply List.ext_getElem
 ·rw[As];exact hl.symm
 ·intro k g1 g2;rw[As]at g1;rw[Dx];unfold goS;rw[XI (jA.1 (At g1)).2,aOk g1];show(rowA a v).getD k 0=_;rw[Aa,Ae g2];rfl
theorem wY{a:Aut}(h:AOK a):∃W,Bfs (goS a) (aB a.al) a.nx.length (ordA a).length [] (ordA a) W:=by
 obtain⟨_,_,h1,_,_⟩:=aV h;exact aLa (mN _) (aEz h) _ 0 [0] _ (Bfs.start om) om om
theorem aIy{a:Aut}:∀(w:List Int) (v u:Int),Path (nxS a) (aB a.al) v w u↔(∀l∈w,l∈aB a.al)/\w.foldl (goS a) v=u
 | [],v,u=>by simp[Path]
 |l::w,v,u=>by
  simp only[Path,nxS,Bq,exists_eq_left,aIy w,De,List.forall_mem_cons];unfold goS;exact and_assoc.symm
theorem H8{a:Aut}{st:Int}{w:List Int}:Hits (nxS a) (aB a.al) [0] (glS st) w↔(∀l∈w,l∈aB a.al)/\w.foldl (goS a) 0=st:=by
 unfold Hits tK glS;simp only[Bq,exists_eq_left,aIy,decide_eq_true_eq]
 constructor
 ·rintro⟨u,⟨h1,h2⟩,rfl⟩;exact⟨h1,h2⟩
 ·rintro⟨h1,h2⟩;exact⟨st,⟨h1,h2⟩,rfl⟩
section
variable{a:Aut}{W:Nat->List Int}
theorem AX{x:Int}{out:List Int}(hx:x∈out):out.getD (out.idxOf x) 0=x/\out.idxOf x<out.length:=by
 have h:=Ek hx;refine⟨?_,h⟩;rw[Aa,Ae h,List.getElem_idxOf];rfl
theorem tG{q:Nat}{out:List Int}(hq:q<out.length):out.getD q 0∈out:=by
 rw[Aa,Ae hq];exact At hq
theorem O8(h:AOK a)(hB:Bfs (goS a) (aB a.al) a.nx.length (ordA a).length [] (ordA a) W){q:Nat}(hq:q<(ordA a).length):oneG a ((ordA a).getD q 0)=(W q,true):=by
 refine r5 (F1 h _) (.inl ⟨rfl,H8.2 ⟨hB.lts q hq,hB.run q hq⟩,fun x hx=> ?_⟩);obtain⟨h1,h2⟩:=H8.1 hx;obtain⟨p,hp,e,hs⟩:=hB.least x.length x rfl h1;have:p=q:=hB.idx hp hq (by rw[e,h2]);subst this;exact hs
theorem aPU(h:AOK a){st:Int}(ho:st∉ordA a):oneG a st=([],false):=by
 obtain⟨W,hB⟩:=wY h;refine r5 (F1 h _) (.inr ⟨rfl,fun w hw=> ?_⟩);obtain⟨h1,h2⟩:=H8.1 hw;obtain⟨p,hp,e,_⟩:=hB.least w.length w rfl h1;rw[h2]at e;exact ho (e▸tG hp)
theorem PY(hB:Bfs (goS a) (aB a.al) a.nx.length (ordA a).length [] (ordA a) W){v l:Int}(hv:v∈ordA a)(hl:l∈aB a.al):goS a v l∈ordA a:=by
 obtain⟨e,hq⟩:=AX hv;obtain⟨p,hp,e2,_⟩:=hB.clo _ l hq hl (.inl hq);rw[e]at e2;exact e2▸tG hp
theorem H0(h:AOK a):AOK (bO a):=by
 obtain⟨W,hB⟩:=wY h;obtain⟨b1,b2,b3,b4⟩:=iC h;have hn:=jN hB.nod hB.rng;have hp:=hB.pos;unfold AOK bO;refine aIW b4 (by rw[As];omega) (by rw[As];omega) (by rw[As,As]) ?_;intro r hr;obtain⟨v,hv,rfl⟩:=Be.1 hr;obtain⟨v0,v1⟩:=hB.rng v hv;have hrow:=XT h v0 v1;refine⟨by rw[As,<-hrow,As],?_⟩;intro q hq;obtain⟨x,hx,rfl⟩:=Be.1 hq;rw[<-hrow]at hx;obtain⟨l,hl,rfl⟩:=Be.1 hx;have:=(AX (PY hB hv hl)).2;unfold idxU;rw[As];omega
theorem aRK(h:AOK a)(hB:Bfs (goS a) (aB a.al) a.nx.length (ordA a).length [] (ordA a) W){q:Nat}(hq:q<(ordA a).length){l:Int}(hl:l∈aB a.al):goS (bO a) q l=idxU (ordA a) (goS a ((ordA a).getD q 0) l):=by
 obtain⟨⟨h0,h1⟩,hb⟩:=jA.1 hl;obtain⟨v0,v1⟩:=hB.rng _ (tG hq);obtain⟨p1,p2⟩:=xE h0 h1 hb;have hlen:=(kF h (i:=((ordA a).getD q 0).toNat) om).1
 have e1:((bO a).nx.getD q [])=(rowA a ((ordA a).getD q 0)).map (idxU (ordA a)):=by
  unfold bO;simp only[Aa,Bd,Ae hq,Az,Bb]
 unfold goS;rw[XI hb,XI (show cM (bO a).al l=true from hb),Cn,e1];show((rowA a ((ordA a).getD q 0)).map (idxU (ordA a))).getD (gU a.al l) 0=_;have hr:gU a.al l<(rowA a ((ordA a).getD q 0)).length:=by unfold rowA;omega
 rw[Aa,Bd,Ae hr,Aa (l:=a.nx.getD _ _)];show idxU _ (rowA a ((ordA a).getD q 0))[gU a.al l]=idxU _ ((rowA a ((ordA a).getD q 0))[gU a.al l]?.getD 0);rw[Ae hr];rfl
theorem aI0(h:AOK a)(hB:Bfs (goS a) (aB a.al) a.nx.length (ordA a).length [] (ordA a) W):∀(w:List Int) (q:Nat),q<(ordA a).length->(∀l∈w,l∈aB a.al)->w.foldl (goS a) ((ordA a).getD q 0)∈ordA a/\w.foldl (goS (bO a)) (q:Int)=idxU (ordA a) (w.foldl (goS a) ((ordA a).getD q 0))
 | [],q,hq,_=>by
  refine⟨tG hq,?_⟩;unfold idxU;simp only[List.foldl_nil];have:=hB.nod.idxOf_getElem q hq;rw[Aa,Ae hq,Bb,this]
 |l::w,q,hq,hw=>by
  have hl:=hw l Bi;obtain⟨e,hp⟩:=AX (PY hB (tG hq) hl);have ih:=aI0 h hB w _ hp fun m hm=>hw m (Bf _ hm);rw[e]at ih;simp only[De];rw[aRK h hB hq hl];exact ih
theorem aNv(h:AOK a)(hB:Bfs (goS a) (aB a.al) a.nx.length (ordA a).length [] (ordA a) W){q:Nat}(hq:q<(ordA a).length):oneG (bO a) q=(W q,true):=by
 rw[<-O8 h hB hq];refine r5 (aEg (fun w=> ?_) (F1 (H0 h) q)) (F1 h _);rw[H8,H8];show(∀l∈w,l∈aB a.al)/\_↔_;refine and_congr_right fun hw=> ?_;obtain⟨h1,h2⟩:=aI0 h hB w 0 hB.pos hw;rw[hB.o0]at h1 h2;have h3:w.foldl (goS (bO a)) 0=idxU (ordA a) (w.foldl (goS a) 0):=h2;rw[h3];obtain⟨e,hp⟩:=AX h1;unfold idxU
 constructor
 ·intro hh;have:(ordA a).idxOf (w.foldl (goS a) 0)=q:=om;rw[this]at e;exact e.symm
 ·intro hh;rw[hB.idx hp hq (by rw[e,hh])]
end
theorem aGp{l:Int}(h0:0<=l)(h1:l<6):(cL l).toNat=(97+l).toNat:=by
 unfold cL;rw[UInt8.toNat_ofNat'];omega
theorem aLL:∀ {u v:List Int},(∀l∈u,0<=l/\l<6)->(∀l∈v,0<=l/\l<6)->qY u v->Op.bytesLess (txt u) (txt v)=true
 | [],_,_,_,h=>h.elim
 |_::_,[],_,_,h=>h.elim
 |a::u,b::v,hu,hv,h=>by
  have ha:=hu a Bi;have hb:=hv b Bi;show Op.bytesLess (cL a::txt u) (cL b::txt v)=true;rw[m8,aGp ha.1 ha.2,aGp hb.1 hb.2]
  rcases h with h|⟨rfl,h⟩
  ·exact .inl om
  ·exact .inr ⟨rfl,aLL (fun l hl=>hu l (Bf _ hl)) (fun l hl=>hv l (Bf _ hl)) h⟩
theorem aRv{u v:List Int}(hu:∀l∈u,0<=l/\l<6)(hv:∀l∈v,0<=l/\l<6)(h:slt u v):cmpX (txt u) (txt v)<0:=by
 rw[F6];unfold txt;rw[As,As]
 rcases h with h|⟨h1,h⟩
 ·exact .inl h
 ·exact .inr ⟨h1,aLL hu hv h⟩
def cJ(a:Aut):List Str:=(List.range (ordA a).length).map fun q=>txt (oneG a ((ordA a).getD q 0)).1
def gI(a:Aut)(j i:Nat):List Str:=(List.range' i j).filterMap fun q=>if(oneG a (q:Nat)).2=true then some (txt (oneG a (q:Nat)).1)else none
def aCp(l:List Str):List Str:=l.mergeSort leX
section
variable{a:Aut}{W:Nat->List Int}
theorem K6(h:AOK a)(hB:Bfs (goS a) (aB a.al) a.nx.length (ordA a).length [] (ordA a) W):cJ a=(List.range (ordA a).length).map fun q=>txt (W q):=by
 unfold cJ;apply Ea;intro q hq;rw[O8 h hB (Ch.1 hq)]
theorem aEp(hB:Bfs (goS a) (aB a.al) a.nx.length (ordA a).length [] (ordA a) W){j k:Nat}(hjk:j<k)(hk:k<(ordA a).length):cmpX (txt (W j)) (txt (W k))<0:=by
 have hin:∀q,q<(ordA a).length->∀l∈W q,0<=l/\l<6:=fun q hq l hl=>by
  have:=cK l (hB.lts q hq l hl);omega
 exact aRv (hin j om) (hin k hk) (hB.asc j k hjk hk)
theorem aPP(hB:Bfs (goS a) (aB a.al) a.nx.length (ordA a).length [] (ordA a) W){j k:Nat}(hj:j<(ordA a).length)(hk:k<(ordA a).length)(e:txt (W j)=txt (W k)):j=k:=by
 rcases Dc j k with h|h|h
 ·have:=aEp hB h hk;rw[e]at this;exact(F8 _ this).elim
 ·exact h
 ·have:=aEp hB h hj;rw[e]at this;exact(F8 _ this).elim
theorem aOE(hB:Bfs (goS a) (aB a.al) a.nx.length (ordA a).length [] (ordA a) W):((List.range (ordA a).length).map fun q=>txt (W q)).Pairwise fun x y=>cmpX x y<0:=by
 rw[List.pairwise_map];refine List.Pairwise.imp_of_mem ?_ (List.pairwise_lt_range (n:=(ordA a).length));intro j k hj hk hjk;exact aEp hB hjk (Ch.1 hk)
theorem aMS(h:AOK a):aCp (gI a a.nx.length 0)=cJ a:=by
 obtain⟨W,hB⟩:=wY h;rw[K6 h hB];have hasc:=aOE hB
 have hfd:∀(q:Nat) (b:Str),(if(oneG a (q:Nat)).2=true then some (txt (oneG a (q:Nat)).1)else none)=some b->∃p,p<(ordA a).length/\(ordA a).getD p 0=(q:Int)/\b=txt (W p):=by
  intro q b hb
  by_cases hq:(q:Int)∈ordA a
  ·obtain⟨e,hp⟩:=AX hq;have:=O8 h hB hp;rw[e]at this;rw[this]at hb;simp at hb;exact⟨_,hp,e,hb.symm⟩
  ·rw[aPU h hq]at hb;simp at hb
 unfold aCp;refine((List.mergeSort_perm _ _).trans ((List.perm_ext_iff_of_nodup ?_ ?_).2 ?_)).eq_of_pairwise (fun x y _ _ h1 h2=>aBF h1 h2) (List.pairwise_mergeSort LW J5 _) (hasc.imp aNC)
 ·unfold gI;refine List.Pairwise.filterMap _ ?_ (List.nodup_range' (s:=0) (n:=a.nx.length));intro p q hpq b hb c hc e;obtain⟨p1,g1,g2,g3⟩:=hfd p b hb;obtain⟨q1,k1,k2,k3⟩:=hfd q c hc;have:=aPP hB g1 k1 (by rw[<-g3,<-k3,e]);subst this;rw[g2]at k2;exact hpq om
 ·exact hasc.imp fun {x y} hxy e=>by rw[e]at hxy;exact F8 _ hxy
 ·intro b;unfold gI;rw[List.mem_filterMap,Be]
  constructor
  ·rintro⟨q,hq,hb⟩;obtain⟨p,h1,_,h3⟩:=hfd q b hb;exact⟨p,Ch.2 h1,h3.symm⟩
  ·rintro⟨p,hp,rfl⟩;have hp:=Ch.1 hp;obtain⟨v0,v1⟩:=hB.rng _ (tG hp);refine⟨((ordA a).getD p 0).toNat,?_,?_⟩
   ·rw[Cr];omega
   ·rw[Bx v0,O8 h hB hp,if_pos rfl]
end
end
end Ev
end Go.Proofs.YthlkcebdfbjdoaaGreat
