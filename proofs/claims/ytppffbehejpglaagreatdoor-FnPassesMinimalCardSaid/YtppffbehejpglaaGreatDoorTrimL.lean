/-
  The first word that tells two states of automata apart, walked: the program's and the reference's.
-/
import Derived.Test.YtppffbehejpglaaGreatDoorPathZ
import Derived.Test.YtppffbehejpglaaGreatDoorSafe
import Derived.Test.YtppffbehejpglaaGreatDoorWordAt
import Derived.Test.YtppffbehejpglaaGreatDoorMemS
import Derived.Test.YtppffbehejpglaaGreatDoorTop
set_option linter.unusedSimpArgs false
set_option linter.unusedVariables false
set_option linter.unusedSectionVars false
set_option maxRecDepth 8000
set_option maxHeartbeats 4000000
namespace Go.Proofs.YtppffbehejpglaaGreatDoor
namespace Ev
section
variable{R:Type}{L n:Nat}
theorem aR{a:Aut}(h:AOK a):aW a.nx/\yJ (aB a.al).length a.nx/\1<=a.nx.length/\a.nx.length<=12/\a.ac.length=a.nx.length:=by
 obtain⟨a1,a2,a3,a4⟩:=fK h;have aw:=qE h;exact⟨⟨by omega,fun r hr=>by have:=aw r hr;have:=bO a.al;omega⟩,aw,a1,a2,a3⟩
def tabP(a:Aut):D:=.iptr [.ivs a.nx.length (ints (iI a.al a.nx))]
def autP(a:Aut):D:=.iptr [.int .i64 a.al,.ivs a.nx.length (aE a.nx),.ivs a.ac.length (aD a.ac)]
def inP(a b:Aut)(x:Int):Prop:=0<=x/\x<(a.nx.length:Int)*b.nx.length
theorem XB(hn:1<=n){a b:Aut}(ha:AOK a)(hb:AOK b){x c:Int}(hx:inP a b x)(hc0:0<=c)(hc6:c<6)(o:List Int)(ho:o.length<=4200000000):
  aA env L n 92 [nI x,nI c,.sl 0 0 0 o.length,.d (tabP a),.d (.iptr [.int .i64 b.nx.length]),.d (tabP b)] [.arr (ints o) 1 0]=some (.sl 0 (nxT a b x c).length 0 (o++nxT a b x c).length,[.arr (ints (o++nxT a b x c)) 1 (nxT a b x c).length]):=by
 obtain⟨sa,wa,a1,a2,a3⟩:=aR ha;obtain⟨sb,wb,b1,b2,b3⟩:=aR hb;obtain⟨p,q⟩:=DC (na:=a.nx.length) (nb:=b.nx.length) om hx.1 hx.2;have ga:=pA ha p.1 p.2 hc0 hc6;have gb:=pA hb q.1 q.2 hc0 hc6;have hla:=hU a.al a.nx;have hlb:=hU b.al b.nx;have hta:=QW (al:=a.al) p.1 p.2 hc0 hc6;have htb:=QW (al:=b.al) q.1 q.2 hc0 hc6;rw[Cl]at hta htb
 have hprod:(a.nx.length:Int)*b.nx.length<=144:=by
  have h1:(a.nx.length:Int)*b.nx.length<=12*b.nx.length:=Ej om om;omega
 have hx1:=hx.2;have hin:=DZ ga gb;have hm0:0<=goI a.al a.nx (x.tdiv b.nx.length) c*b.nx.length:=Int.mul_nonneg ga.1 om;have hb0:¬(b.nx.length:Int)=0:=om;unfold nxT tabP;have d1:(x.tdiv b.nx.length).toNat*6<=a.nx.length*6:=om;have d2:(x.tmod b.nx.length).toNat*6<=b.nx.length*6:=om;have d3:c.toNat<a.nx.length*6-(x.tdiv b.nx.length).toNat*6:=om;have d4:c.toNat<b.nx.length*6-(x.tmod b.nx.length).toNat*6:=om;generalize goI a.al a.nx (x.tdiv b.nx.length) c=g1 at *;generalize goI b.al b.nx (x.tmod b.nx.length) c=g2 at *;obtain⟨x0,x1⟩:=hx;obtain⟨p0,p1⟩:=p;obtain⟨q0,q1⟩:=q;have xs:x<=144:=om;have hl1:((List.length [g1*(b.nx.length:Int)+g2]))=1:=rfl;clear ha hb sa sb wa wb x1;obtain _|n:=n;omega
 simp-implicitDefEqProofs (maxSteps:=9^7) (disch:=try exact Dz) only[↓DN,↓kAsg,↓kRet,UP,simprocAttr,hla,hlb,hta,htb,p0,p1,q0,q1,Cg,Cl,hl1,XE,FR,Tryz.f92]
theorem aPQ{R:Type}{L n id:Nat}{hq:H}{k:KA R}(hn:1<=n){a b:Aut}(ha:AOK a)(hb:AOK b)(x c:Int)(o:List Int)(hx:inP a b x)(hc0:0<=c)(hc6:c<6)(ho:o.length<=4200000000)(hid:hq[id]? =some (.arr (ints o) 1 0)):
  aX env (aA env L n) hq 92 (nI x::nI c::.sl id 0 0 o.length::[tabP a,.iptr [.int .i64 b.nx.length],tabP b].map A.d) k
  =k (.sl id (nxT a b x c).length 0 (o++nxT a b x c).length) (hq.set id (.arr (ints (o++nxT a b x c)) 1 (nxT a b x c).length)):=by
 refine UJ hid (by simp[idsL,idsA]) pD ?_;have hpl:aJ [id] id=some 0:=by simp[aJ]
 simp only[Aj,As,aG,mapA,hpl];exact XB hn ha hb hx hc0 hc6 o ho
theorem aXC:dZ env.P 72=some false:=kr
theorem XJ(hn:2<=n){a b:Aut}{f:Bool->Bool->Bool}{go:FuncId}(hm:(env.hint go).mode=0)(kc_o:∀(x y:Bool) {R:Type} {n:Nat} {hq:H} {k:KA R},1<=n->aX env (aA env L n) hq go [.d (.bool x),.d (.bool y)] k=k (.d (.bool (f x y))) hq)(ha:AOK a)(hb:AOK b){x:Int}(hx:inP a b x):
  aA env L n 94 [nI x,.d (.iptr [.fn go []]),.d (autP a),.d (.iptr [.int .i64 b.nx.length]),.d (autP b)] []=some (.d (.bool (glT f a b x)),[]):=by
 obtain⟨sa,wa,a1,a2,a3⟩:=aR ha;obtain⟨sb,wb,b1,b2,b3⟩:=aR hb;obtain⟨p,q⟩:=DC (na:=a.nx.length) (nb:=b.nx.length) om hx.1 hx.2
 have hprod:(a.nx.length:Int)*b.nx.length<=144:=by
  have h1:(a.nx.length:Int)*b.nx.length<=12*b.nx.length:=Ej om om;omega
 have hb0:¬(b.nx.length:Int)=0:=om;have e1:(x.tdiv b.nx.length).toNat<a.ac.length:=om;have e2:(x.tmod b.nx.length).toNat<b.ac.length:=om;have e3:x.tdiv b.nx.length<(a.ac.length:Int):=om;have e4:x.tmod b.nx.length<(b.ac.length:Int):=om;obtain⟨x0,x1⟩:=hx;obtain⟨p0,p1⟩:=p;obtain⟨q0,q1⟩:=q;have xs:x<=144:=om;have kc_p:=fun {R:Type} {n:Nat} {hq:H} {k:KA R} (hn:1<=n)=>kc_o (a.ac.getD (x.tdiv b.nx.length).toNat false) (b.ac.getD (x.tmod b.nx.length).toNat false) (R:=R) (n:=n) (hq:=hq) (k:=k) hn;unfold glT autP;clear ha hb sa sb wa wb x1 kc_o;obtain _|n:=n;omega
 simp-implicitDefEqProofs (maxSteps:=9^7) (disch:=try exact Dz) only[↓DN,↓kAsg,↓kRet,UP,simprocAttr,LA,aXC,hm,p0,e3,q0,e4,e1,e2,↓kc_p,XF,FH,Tryz.f94]
theorem aP1{hq:H}{k:KA R}(hn:2<=n){a b:Aut}{f:Bool->Bool->Bool}{go:FuncId}(hm:(env.hint go).mode=0)(kc_o:∀(x y:Bool) {R:Type} {n:Nat} {hq:H} {k:KA R},1<=n->aX env (aA env L n) hq go [.d (.bool x),.d (.bool y)] k=k (.d (.bool (f x y))) hq)(ha:AOK a)(hb:AOK b)(x:Int)(hx:inP a b x):
  aX env (aA env L n) hq 94 (nI x::[.iptr [.fn go []],autP a,.iptr [.int .i64 b.nx.length],autP b].map A.d) k=k (.d (.bool (glT f a b x))) hq:=
 bS rfl (XJ hn hm kc_o ha hb hx) rfl (.inl rfl)
theorem aDy{L:Nat}{a b:A}{id g o len f1 f2:Nat}{c1 c2:List A}:KV L 93 [a,.sl id g o len,b,.clo f1 c1,.clo f2 c2]:=fun _ _ _ _=>d7 qM
theorem aXN{v:Int}:ints [v]=[.int .i64 v]:=rfl
theorem MV(hn:8<=n)(hL:2^60<=L){a b:Aut}{f:Bool->Bool->Bool}{go:FuncId}(hm:(env.hint go).mode=0)(kc_o:∀(x y:Bool) {R:Type} {n:Nat} {hq:H} {k:KA R},1<=n->aX env (aA env L n) hq go [.d (.bool x),.d (.bool y)] k=k (.d (.bool (f x y))) hq)(ha:AOK a)(hb:AOK b){i j:Int}(hi:0<=i/\i<a.nx.length)(hj:0<=j/\j<b.nx.length):
  aA env L n 55 [.agg [nI a.al,.d (.ivs a.nx.length (aE a.nx)),.d (.ivs a.ac.length (aD a.ac))],.agg [nI b.al,.d (.ivs b.nx.length (aE b.nx)),.d (.ivs b.ac.length (aD b.ac))],nI i,nI j,.d (.fn go [])] []=some (.tup [.d (.str (txt (twoG f a b i j).1)),.d (.bool (twoG f a b i j).2)],[]):=by
 obtain⟨sa,wa,a1,a2,a3⟩:=aR ha;obtain⟨sb,wb,b1,b2,b3⟩:=aR hb
 have hprod:(a.nx.length:Int)*b.nx.length<=144:=by
  have h1:(a.nx.length:Int)*b.nx.length<=12*b.nx.length:=Ej om om;omega
 have hprodN:a.nx.length*b.nx.length<=144:=by
  have:=hprod;rw[<-Cf]at this;omega
 have hin:=DZ hi hj
 have hp:=fun {n:Nat} (hn:7<=n)=> @R2 L n 0 hn hL (inP a b) (glT f a b) 92 94 [tabP a,.iptr [.int .i64 b.nx.length],tabP b] [.iptr [.fn go []],autP a,.iptr [.int .i64 b.nx.length],autP b] (a.nx.length*b.nx.length) (nxT a b) (fun x c=>(nxT a b x c).length) (aB a.al) [i*b.nx.length+j]
  (fun {R n id hq k} x c o h4 hI h0 h6 ho hid=>aPQ om ha hb x c o hI h0 h6 ho hid)
  (fun {R n hq k} x h2 hI=>aP1 h2 hm kc_o ha hb x hI)
  (fun x hI=>by rw[Cf];exact hI) om (fun x hx=>by simp at hx;subst hx;exact hin) (fun x c hI h0 h6 y hy=>Q7 ha hb hI.1 hI.2 ⟨h0,h6⟩ y hy) (fun x c=>by simp[nxT]) b9 (bO a.al) smp (by
   have:0<(a.nx.length:Int)*b.nx.length:=Int.mul_pos om om;rw[<-Cf]at this;simp only[Ae,Ac];omega)
 have kl_p:=fun {R:Type} {n:Nat} {k:A->Option R} (hn:7<=n)=>lT (k:=k) (hp (n:=n) hn) rfl;have er:H9 (nxT a b) (glT f a b) (aB a.al) [i*b.nx.length+j] (a.nx.length*b.nx.length)=twoG f a b i j:=rfl;rw[er]at kl_p;simp only[aXN,Ae,Ac,Ag,Cf,tabP,autP]at kl_p;have hi2:0<=i*(b.nx.length:Int):=Int.mul_nonneg hi.1 om;obtain⟨i0,i1⟩:=hi;obtain⟨j0,j1⟩:=hj;obtain⟨n0,n1⟩:=hin;have hm0:0<=(a.nx.length:Int)*b.nx.length:=om;have hla:=hU a.al a.nx;have hlb:=hU b.al b.nx;clear hp kc_o ha hb er;generalize twoG f a b i j=r at *;obtain _|n:=n;omega
 simp-implicitDefEqProofs (maxSteps:=9^7) (disch:=try exact Dz) only[↓DN,↓kAsg,↓kRet,UP,simprocAttr,↓BZ,↓jD,↓aDy,↓kl_p,aEc,OX,Tryz.f55]
def RX(a:Aut)(i j:Int):Bool:=cA a.al a.nx a.ac&&(decide (0<=i)&&decide (i<a.nx.length))&&(decide (0<=j)&&decide (j<a.nx.length))
def dY(a:Aut)(i j:Int):List Int×Bool:=if RX a i j=true then twoG (fun x y=>x !=y) a a i j else([],false)
theorem XD(hn:1<=n)(x y:Bool):aA env L n 69 [.d (.bool x),.d (.bool y)] []=some (.d (.bool (x !=y)),[]):=by
 obtain _|n:=n;omega
 simp-implicitDefEqProofs (maxSteps:=9^7) (disch:=try exact Dz) only[↓DN,↓kAsg,↓kRet,UP,simprocAttr,XI,EL,Tryz.f69]
 all_goals (cases x<;>cases y<;>rfl)
theorem XR{hq:H}{k:KA R}(hn:1<=n)(x y:Bool):aX env (aA env L n) hq 69 [.d (.bool x),.d (.bool y)] k=k (.d (.bool (x !=y))) hq:=
 bS rfl (XD hn x y) rfl (.inl rfl)
theorem LQ(hn:9<=n)(a:Aut)(i j:Int)(hs:aW a.nx)(hac:a.ac.length<=4294967296)(hL:2^60<=L):aA env L n 38 [.agg [nI a.al,.d (.ivs a.nx.length (aE a.nx)),.d (.ivs a.ac.length (aD a.ac))],nI i,nI j] []=some (.tup [.d (.str (txt (dY a i j).1)),.d (.bool (dY a i j).2)],[]):=by
 have hrl:=hs.1;unfold dY RX
 cases hv:cA a.al a.nx a.ac with
 |false=>
  simp only[Co,Al,if_false,txt,As];obtain _|n:=n;omega
  simp-implicitDefEqProofs (maxSteps:=9^7) (disch:=try exact Dz) only[↓DN,↓kAsg,↓kRet,UP,simprocAttr,↓a8,hv,jN,iC,Tryz.f38]
 |true=>
  by_cases h1:0<=i
  ·by_cases h2:i<a.nx.length
   ·by_cases h3:0<=j
    ·by_cases h4:j<a.nx.length
     ·simp only[h1,h2,h3,h4,decide_true,Bq,if_true];have kl_b:=fun {R:Type} {n:Nat} {k:A->Option R} (hn:8<=n)=>lT (call:=aA env L n) (k:=k) (f:=55) (@MV L n hn hL a a (fun x y=>x !=y) 69 n9 (fun x y {R n hq k} hn=>XR hn x y) hv hv i j ⟨h1,h2⟩ ⟨h3,h4⟩) rfl;have kv_l:=fun {R:Type} {n:Nat} {hq:H} {args:List A} {k:KA R}=>d7 (E:=env) (call:=aA env L n) (h:=hq) (k:=k) (args:=args) mP;generalize twoG (fun x y=>x !=y) a a i j=r at *;have g1:¬i<0:=om;have g2:¬(a.nx.length:Int)<=i:=om;have g3:¬j<0:=om;have g4:¬(a.nx.length:Int)<=j:=om;obtain _|n:=n;omega
      simp-implicitDefEqProofs (maxSteps:=9^7) (disch:=try exact Dz) only[↓DN,↓kAsg,↓kRet,UP,simprocAttr,↓a8,hv,g1,g2,g3,g4,↓kv_l,↓kl_b,jN,iC,Tryz.f38]
     ·simp only[h1,h2,h3,h4,decide_true,decide_false,Bq,Dr,Al,if_false,txt,As];have g1:¬i<0:=om;have g2:¬(a.nx.length:Int)<=i:=om;have g3:¬j<0:=om;have g4:(a.nx.length:Int)<=j:=om;obtain _|n:=n;omega
      simp-implicitDefEqProofs (maxSteps:=9^7) (disch:=try exact Dz) only[↓DN,↓kAsg,↓kRet,UP,simprocAttr,↓a8,hv,g1,g2,g3,g4,jN,iC,Tryz.f38]
    ·simp only[h1,h2,h3,decide_true,decide_false,Bq,Dr,Co,Al,if_false,txt,As];have g1:¬i<0:=om;have g2:¬(a.nx.length:Int)<=i:=om;have g3:j<0:=om;obtain _|n:=n;omega
     simp-implicitDefEqProofs (maxSteps:=9^7) (disch:=try exact Dz) only[↓DN,↓kAsg,↓kRet,UP,simprocAttr,↓a8,hv,g1,g2,g3,jN,iC,Tryz.f38]
   ·simp only[h1,h2,decide_true,decide_false,Dr,Co,Al,if_false,txt,As];have g1:¬i<0:=om;have g2:(a.nx.length:Int)<=i:=om;obtain _|n:=n;omega
    simp-implicitDefEqProofs (maxSteps:=9^7) (disch:=try exact Dz) only[↓DN,↓kAsg,↓kRet,UP,simprocAttr,↓a8,hv,g1,g2,jN,iC,Tryz.f38]
  ·simp only[h1,decide_false,Dr,Co,Al,if_false,txt,As];have g1:i<0:=om;obtain _|n:=n;omega
   simp-implicitDefEqProofs (maxSteps:=9^7) (disch:=try exact Dz) only[↓DN,↓kAsg,↓kRet,UP,simprocAttr,↓a8,hv,g1,jN,iC,Tryz.f38]
theorem aEN:type_of% fun {L} a i j hs hac hL=>ks fun hn=> @LQ L _ hn a i j hs hac hL:=fun {L} a i j hs hac hL=>ks fun hn=> @LQ L _ hn a i j hs hac hL
theorem aAk(hn:1<=n)(al:Int)(rs:List (List Int))(z:Nat)(cs:List D)(hrl:rs.length<=4294967296)(i:Int):aA env L n 117 [.agg [nI al,.d (.ivs rs.length (aE rs)),.d (.ivs z cs)],nI i] []=some (.d (.bool (decide (0<=i)&&decide (i<rs.length))),[]):=by
 by_cases h1:0<=i
 ·by_cases h2:i<rs.length
  ·simp only[h1,h2,decide_true,Bq];obtain _|n:=n;omega
   simp-implicitDefEqProofs (maxSteps:=9^7) (disch:=try exact Dz) only[↓DN,↓kAsg,↓kRet,UP,simprocAttr,h1,h2,L5,EA,Tryz.f117]
  ·simp only[h1,h2,decide_true,decide_false,Dr];obtain _|n:=n;omega
   simp-implicitDefEqProofs (maxSteps:=9^7) (disch:=try exact Dz) only[↓DN,↓kAsg,↓kRet,UP,simprocAttr,h1,h2,L5,EA,Tryz.f117]
 ·simp only[h1,decide_false,Co];obtain _|n:=n;omega
  simp-implicitDefEqProofs (maxSteps:=9^7) (disch:=try exact Dz) only[↓DN,↓kAsg,↓kRet,UP,simprocAttr,h1,L5,EA,Tryz.f117]
theorem uG:type_of% fun {L} al rs z cs hrl i=>ks fun hn=> @aAk L _ hn al rs z cs hrl i:=fun {L} al rs z cs hrl i=>ks fun hn=> @aAk L _ hn al rs z cs hrl i
theorem JN(hn:12<=n)(a:Aut)(i j:Int)(hs:aW a.nx)(hac:a.ac.length<=4294967296)(hL:2^60<=L):aA env L n 83 [.agg [nI a.al,.d (.ivs a.nx.length (aE a.nx)),.d (.ivs a.ac.length (aD a.ac))],nI i,nI j] []=some (.tup [.d (.str (txt (dY a i j).1)),.d (.bool (dY a i j).2)],[]):=by
 have hrl:=hs.1;unfold dY RX
 cases hv:cA a.al a.nx a.ac with
 |false=>
  simp only[Co,Al,if_false,txt,As];obtain _|n:=n;omega
  simp-implicitDefEqProofs (maxSteps:=9^7) (disch:=try exact Dz) only[↓DN,↓kAsg,↓kRet,UP,simprocAttr,↓bB,hv,pZ,mY,Tryz.f83]
 |true=>
  by_cases h1:0<=i/\i<a.nx.length
  ·by_cases h3:0<=j/\j<a.nx.length
   ·obtain⟨h1,h2⟩:=h1;obtain⟨h3,h4⟩:=h3;simp only[h1,h2,h3,h4,decide_true,Bq,if_true];have kc_b:=fun {R:Type} {n:Nat} {k:A->Option R} (hn:11<=n)=>lT (call:=aA env L n) (k:=k) (f:=118) (@aKy L n hn hL a a i j 1 hv hv rfl ⟨h1,h2⟩ ⟨h3,h4⟩ (.inl rfl)) rfl;simp only[if_true,gN,ints,Aj,As]at kc_b;have kl_b:=fun {R:Type} {n:Nat} {k:A->Option R} (hn:11<=n)=>kc_b (R:=R) (n:=n) (k:=k) hn;have kv_l:=fun {R:Type} {n:Nat} {hq:H} {args:List A} {k:KA R}=>d7 (E:=env) (call:=aA env L n) (h:=hq) (k:=k) (args:=args) u7;clear kc_b;generalize twoG (fun x y=>x !=y) a a i j=r at *;obtain _|n:=n;omega
    simp-implicitDefEqProofs (maxSteps:=9^7) (disch:=try exact Dz) only[↓DN,↓kAsg,↓kRet,UP,simprocAttr,↓bB,↓uG,hv,h1,h2,h3,h4,↓kv_l,↓kl_b,pZ,mY,Tryz.f83]
   ·have e3:(decide (0<=j)&&decide (j<a.nx.length))=false:=by
     rw[Bool.and_eq_false_iff,decide_eq_false_iff_not,decide_eq_false_iff_not];omega
    obtain⟨h1,h2⟩:=h1;simp only[h1,h2,e3,decide_true,Bq,Dr,Al,if_false,txt,As];obtain _|n:=n;omega
    simp-implicitDefEqProofs (maxSteps:=9^7) (disch:=try exact Dz) only[↓DN,↓kAsg,↓kRet,UP,simprocAttr,↓bB,↓uG,hv,h1,h2,e3,pZ,mY,Tryz.f83]
  ·have e3:(decide (0<=i)&&decide (i<a.nx.length))=false:=by
    rw[Bool.and_eq_false_iff,decide_eq_false_iff_not,decide_eq_false_iff_not];omega
   simp only[e3,Dr,Co,Al,if_false,txt,As];obtain _|n:=n;omega
   simp-implicitDefEqProofs (maxSteps:=9^7) (disch:=try exact Dz) only[↓DN,↓kAsg,↓kRet,UP,simprocAttr,↓bB,↓uG,hv,e3,pZ,mY,Tryz.f83]
theorem aEp:type_of% fun {L} a i j hs hac hL=>ks fun hn=> @JN L _ hn a i j hs hac hL:=fun {L} a i j hs hac hL=>ks fun hn=> @JN L _ hn a i j hs hac hL
end
section
variable{R:Type}{L n:Nat}
def nxS(a:Aut)(v l:Int):List Int:=[goI a.al a.nx v l]
def glS(st v:Int):Bool:=decide (v=st)
def inS(a:Aut)(x:Int):Prop:=0<=x/\x<(a.nx.length:Int)
def oneG(a:Aut)(st:Int):List Int×Bool:=H9 (nxS a) (glS st) (aB a.al) [0] a.nx.length
def accG(a:Aut)(st:Int):List Int×Bool:=if cA a.al a.nx a.ac=true then oneG a st else([],false)
theorem SS{a:Aut}(ha:AOK a){v c:Int}(h0:0<=v)(h1:v<(a.nx.length:Int))(hc:0<=c/\c<6):∀m∈nxS a v c,0<=m/\m<(a.nx.length:Int):=by
 intro m hm;simp only[nxS,Bf]at hm;subst hm;exact pA ha h0 h1 hc.1 hc.2
theorem I6{a:Aut}(ha:AOK a)(st:Int):ED (Hits (nxS a) (aB a.al) [0] (glS st)) (oneG a st):=by
 obtain⟨_,_,h1,_,_⟩:=aR ha;refine aBi (lE _) (fun p c h0 h1 hc=> ?_) (fun n hn=> ?_) smp
 ·have:=b9 c hc;exact SS ha h0 h1 om
 ·simp only[Bf]at hn;omega
theorem aIK{a:Aut}(ha:AOK a):∀(w:List Int) (v u:Int),0<=v->v<(a.nx.length:Int)->Path (nxS a) (aB a.al) v w u->0<=u/\u<(a.nx.length:Int)
 | [],v,u,h0,h1,h=>by simp only[Path]at h;subst h;exact⟨h0,h1⟩
 |l::w,v,u,h0,h1,h=>by
  simp only[Path]at h;obtain⟨hl,m,hm,hp⟩:=h;have:=b9 l hl;have hr:=SS ha h0 h1 ⟨this.1,by omega⟩ m hm;exact aIK ha w m u hr.1 hr.2 hp
theorem aWn{a:Aut}(ha:AOK a){st:Int}(h:¬(0<=st/\st<(a.nx.length:Int))):oneG a st=([],false):=by
 obtain⟨_,_,h1,_,_⟩:=aR ha
 rcases I6 ha st with⟨_,⟨u,⟨s,hs,hp⟩,hg⟩,_⟩|⟨he,_⟩
 ·simp only[Bf]at hs;subst hs;have:=aIK ha _ _ _ om om hp;simp only[glS,decide_eq_true_eq]at hg;subst hg;exact absurd this h
 ·exact he
theorem aW2{v:Int}:ints [v]=[.int .i64 v]:=rfl
theorem aBX(hn:1<=n){a:Aut}(ha:AOK a){x c:Int}(hx:inS a x)(hc0:0<=c)(hc6:c<6)(o:List Int)(ho:o.length<=4200000000):
  aA env L n 104 [nI x,nI c,.sl 0 0 0 o.length,.d (tabP a)] [.arr (ints o) 1 0]=some (.sl 0 (nxS a x c).length 0 (o++nxS a x c).length,[.arr (ints (o++nxS a x c)) 1 (nxS a x c).length]):=by
 obtain⟨sa,wa,a1,a2,a3⟩:=aR ha;have ga:=pA ha hx.1 hx.2 hc0 hc6;have hla:=hU a.al a.nx;have hta:=QW (al:=a.al) hx.1 hx.2 hc0 hc6;rw[Cl]at hta;unfold nxS tabP;obtain⟨x0,x1⟩:=hx;have d1:x.toNat*6<=a.nx.length*6:=om;have d3:c.toNat<a.nx.length*6-x.toNat*6:=om;generalize goI a.al a.nx x c=g1 at *;have hl1:(List.length [g1])=1:=rfl;clear ha sa wa;obtain _|n:=n;omega
 simp-implicitDefEqProofs (maxSteps:=9^7) (disch:=try exact Dz) only[↓DN,↓kAsg,↓kRet,UP,simprocAttr,hla,hta,x0,x1,Cg,Cl,hl1,aBU,JZ,Tryz.f104]
theorem aQd{R:Type}{L n id:Nat}{hq:H}{k:KA R}(hn:1<=n){a:Aut}(ha:AOK a)(x c:Int)(o:List Int)(hx:inS a x)(hc0:0<=c)(hc6:c<6)(ho:o.length<=4200000000)(hid:hq[id]? =some (.arr (ints o) 1 0)):
  aX env (aA env L n) hq 104 (nI x::nI c::.sl id 0 0 o.length::[tabP a].map A.d) k
  =k (.sl id (nxS a x c).length 0 (o++nxS a x c).length) (hq.set id (.arr (ints (o++nxS a x c)) 1 (nxS a x c).length)):=by
 refine UJ hid (by simp[idsL,idsA]) rT ?_;have hpl:aJ [id] id=some 0:=by simp[aJ]
 simp only[Aj,As,aG,mapA,hpl];exact aBX hn ha hx hc0 hc6 o ho
theorem aA5(hn:1<=n)(x st:Int):aA env L n 72 [nI x,.d (.iptr [.int .i64 st])] []=some (.d (.bool (glS st x)),[]):=by
 unfold glS
 by_cases h:x=st
 ·subst h;obtain _|n:=n;omega
  simp-implicitDefEqProofs (maxSteps:=9^7) (disch:=try exact Dz) only[↓DN,↓kAsg,↓kRet,UP,simprocAttr,FD,v8,Tryz.f72]
 ·have h2:(x==st)=false:=by simpa using h
  have h3:decide (x=st)=false:=by simpa using h
  obtain _|n:=n;omega
  simp-implicitDefEqProofs (maxSteps:=9^7) (disch:=try exact Dz) only[↓DN,↓kAsg,↓kRet,UP,simprocAttr,h3,FD,v8,Tryz.f72]
theorem aHV(hn:8<=n)(hL:2^60<=L){a:Aut}(ha:AOK a)(st:Int):
  aA env L n 71 [.agg [nI a.al,.d (.ivs a.nx.length (aE a.nx)),.d (.ivs a.ac.length (aD a.ac))],.d (.fn 72 [.iptr [.int .i64 st]])] []=some (.tup [.d (.str (txt (oneG a st).1)),.d (.bool (oneG a st).2)],[]):=by
 obtain⟨sa,wa,a1,a2,a3⟩:=aR ha
 have hp:=fun {n:Nat} (hn:7<=n)=> @R2 L n 0 hn hL (inS a) (glS st) 104 72 [tabP a] [.iptr [.int .i64 st]] a.nx.length (nxS a) (fun x c=>(nxS a x c).length) (aB a.al) [0]
  (fun {R n id hq k} x c o h4 hI h0 h6 ho hid=>aQd om ha x c o hI h0 h6 ho hid)
  (fun {R n hq k} x h2 hI=>bS rfl (aA5 om x st) rfl (.inl rfl))
  (fun x hI=>hI) om (fun x hx=>by simp at hx;subst hx;exact⟨by omega,by omega⟩) (fun x c hI h0 h6 y hy=>SS ha hI.1 hI.2 ⟨h0,h6⟩ y hy) (fun x c=>by simp[nxS]) b9 (bO a.al) smp (by simp only[Ae,Ac];omega)
 have kl_p:=fun {R:Type} {n:Nat} {k:A->Option R} (hn:7<=n)=>lT (k:=k) (hp (n:=n) hn) rfl;have er:H9 (nxS a) (glS st) (aB a.al) [0] a.nx.length=oneG a st:=rfl;rw[er]at kl_p;simp only[aW2,Ae,Ac,Ag,tabP]at kl_p;have hla:=hU a.al a.nx;have kv_l:=fun {R:Type} {n:Nat} {hq:H} {args:List A} {k:KA R}=>d7 (E:=env) (call:=aA env L n) (h:=hq) (k:=k) (args:=args) qM;clear hp ha er;generalize oneG a st=r at *;obtain _|n:=n;omega
 simp-implicitDefEqProofs (maxSteps:=9^7) (disch:=try exact Dz) only[↓DN,↓kAsg,↓kRet,UP,simprocAttr,↓BZ,↓jD,↓kv_l,↓kl_p,aHK,VX,Tryz.f71]
theorem OK(hn:9<=n)(a:Aut)(st:Int)(hs:aW a.nx)(hac:a.ac.length<=4294967296)(hL:2^60<=L):aA env L n 40 [.agg [nI a.al,.d (.ivs a.nx.length (aE a.nx)),.d (.ivs a.ac.length (aD a.ac))],nI st] []=some (.tup [.d (.str (txt (accG a st).1)),.d (.bool (accG a st).2)],[]):=by
 have hrl:=hs.1;unfold accG
 cases hv:cA a.al a.nx a.ac with
 |false=>
  simp only[Al,if_false,txt,As];obtain _|n:=n;omega
  simp-implicitDefEqProofs (maxSteps:=9^7) (disch:=try exact Dz) only[↓DN,↓kAsg,↓kRet,UP,simprocAttr,↓a8,hv,N9,CW,Tryz.f40]
 |true=>
  simp only[if_true];have kl_b:=fun {R:Type} {n:Nat} {k:A->Option R} (hn:8<=n)=>lT (call:=aA env L n) (k:=k) (f:=71) (@aHV L n hn hL a hv st) rfl;have kv_l:=fun {R:Type} {n:Nat} {hq:H} {args:List A} {k:KA R}=>d7 (E:=env) (call:=aA env L n) (h:=hq) (k:=k) (args:=args) x5;generalize oneG a st=r at *;obtain _|n:=n;omega
  simp-implicitDefEqProofs (maxSteps:=9^7) (disch:=try exact Dz) only[↓DN,↓kAsg,↓kRet,UP,simprocAttr,↓a8,hv,↓kv_l,↓kl_b,N9,CW,Tryz.f40]
theorem aF2:type_of% fun {L} a st hs hac hL=>ks fun hn=> @OK L _ hn a st hs hac hL:=fun {L} a st hs hac hL=>ks fun hn=> @OK L _ hn a st hs hac hL
end
theorem aWb:∀(a:Fin 64) (l m:Fin 6),cN (iOr .i64 (a.val:Int) (bitI (l.val:Int))) (m.val:Int)=(cN (a.val:Int) (m.val:Int)||decide (m.val=l.val)):=by decide+kernel
theorem aU0:∀(a:Fin 64) (l:Fin 6),0<=iOr .i64 (a.val:Int) (bitI (l.val:Int))/\iOr .i64 (a.val:Int) (bitI (l.val:Int))<=63:=by decide+kernel
theorem aXx{a l m:Int}(ha:cP a=true)(hl:fA l=true)(hm:fA m=true):cN (iOr .i64 a (bitI l)) m=(cN a m||decide (m=l)):=by
 unfold cP at ha;simp only[decide_eq_true_eq]at ha;have hl:=zL.1 hl;have hm:=zL.1 hm;have h:=aWb ⟨a.toNat,by omega⟩ ⟨l.toNat,by omega⟩ ⟨m.toNat,by omega⟩;simp only[Bl ha.1,Bl hl.1,Bl hm.1]at h;rw[h]
 congr 1
 have:(m.toNat=l.toNat)↔m=l:=om;simp only[this]
theorem aUj{a l:Int}(ha:cP a=true)(hl:fA l=true):cP (iOr .i64 a (bitI l))=true:=by
 unfold cP at ha|-;simp only[decide_eq_true_eq]at ha|-;have hl:=zL.1 hl;have h:=aU0 ⟨a.toNat,by omega⟩ ⟨l.toNat,by omega⟩
 simpa only[Bl ha.1,Bl hl.1]using h
def aK1(ls:List Int):Int:=ls.foldl (fun o l=>iOr .i64 o (bitI l)) 0
theorem aFA{ls:List Int}:∀ {a:Int},cP a=true->(∀l∈ls,fA l=true)->cP (ls.foldl (fun o l=>iOr .i64 o (bitI l)) a)=true/\∀m,fA m=true->cN (ls.foldl (fun o l=>iOr .i64 o (bitI l)) a) m=(cN a m||ls.any (fun l=>decide (m=l))):=by
 induction ls with
 |nil=>intro a ha _;exact⟨ha,fun m _=>by simp⟩
 |cons l ls ih=>
  intro a ha hl;have h1:=aUj ha (hl l smp);obtain⟨h2,h3⟩:=ih h1 (fun x hx=>hl x (by simp[hx]));refine⟨h2,fun m hm=> ?_⟩;rw[Dc,h3 m hm,aXx ha (hl l smp) hm,List.any_cons,Bool.or_assoc]
theorem aUK:∀m:Int,fA m=true->cN 0 m=false:=by
 intro m _;unfold cN;simp
theorem aOo{ls:List Int}(h:∀l∈ls,fA l=true):cP (aK1 ls)=true:=(aFA (a:=0) rfl h).1
theorem aS6{ls:List Int}(h:∀l∈ls,fA l=true){m:Int}(hm:fA m=true):cN (aK1 ls) m=ls.any (fun l=>decide (m=l)):=by
 have:=(aFA (a:=0) rfl h).2 m hm;rw[aUK m hm,Bool.false_or]at this;exact this
def y8(s:List UInt8):Int:=aK1 (s.map ltr)
theorem aUi{β α:Type}{f:β->α->β}{l:List α}{i:Nat}{d:α}{o:β}(h:i<l.length):(l.drop i).foldl f o=(l.drop (i+1)).foldl f (f o (l.getD i d)):=by
 rw[Dt h,Aa,Ad h];rfl
theorem aEx{al:Int}{rs:List (List Int)}{ac:List Bool}(ha:cP al=true)(h1:1<=rs.length)(h2:rs.length<=12)(h3:ac.length=rs.length)(hr:∀r∈rs,r.length=(aB al).length/\∀q∈r,0<=q/\q<rs.length):cA al rs ac=true:=by
 unfold cA;simp only[Ar,decide_eq_true_eq];refine⟨⟨⟨⟨ha,by omega⟩,by omega⟩,by omega⟩,?_⟩;rw[Option.isNone_iff_eq_none,kY];intro i _ hi;have hi:i<rs.length:=om;obtain⟨hw,hq⟩:=hr (rs.getD i []) (by rw[Aa,Ad hi];exact At hi);unfold fV;rw[UH om]
 have:seek (badQ rs.length (rs.getD i [])) (rs.getD i []).length 0=none:=by
  rw[kY];intro j _ hj;have hj:j<(rs.getD i []).length:=om;rw[BW];refine hq _ ?_;generalize rs.getD i []=r at *;rw[Aa,Ad hj];exact At hj
 rw[this];rfl
theorem gL{al:Int}{rs:List (List Int)}{ac:List Bool}(h:cA al rs ac=true){i:Nat}(hi:i<rs.length):(rs.getD i []).length=(aB al).length/\∀j,j<(aB al).length->0<=(rs.getD i []).getD j 0/\(rs.getD i []).getD j 0<rs.length:=by
 have hw:=aHF (qE h) hi;refine⟨hw,?_⟩;intro j hj;unfold cA at h;simp only[Ar]at h;have hb:=KP h.2 hi;unfold fV at hb;rw[UH om]at hb
 have:=KP (p:=badQ rs.length (rs.getD i [])) (n:=(rs.getD i []).length) (by cases hs:seek (badQ rs.length (rs.getD i [])) (rs.getD i []).length 0 with
  |none=>rfl
  |some z=>rw[hs]at hb;cases hb) (i:=j) om
 exact BW.1 this
theorem aDx{al:Int}{rs:List (List Int)}{ac:List Bool}(h:cA al rs ac=true){q l:Int}(hq0:0<=q)(hq1:q<rs.length)(h0:0<=l)(h1:l<6):0<=goI al rs q l/\goI al rs q l<rs.length:=by
 unfold goI
 split
 ·rename_i hb
  exact(gL h (i:=q.toNat) om).2 _ (tJ h0 h1 hb).1
 ·exact⟨hq0,hq1⟩
theorem UU{l:Int}:fA l=true↔0<=l/\l<6:=by unfold fA;simp
def stGo(al:Int)(rs:List (List Int))(w:List UInt8)(q:Int):Int:=w.foldl (fun q b=>goI al rs q (ltr b)) q
def qB(al:Int)(rs:List (List Int))(ac:List Bool)(w:List UInt8):Int:=if cA al rs ac&&dQ al w then stGo al rs w 0 else -1
theorem mR{al:Int}{w:List UInt8}(hw:dQ al w=true):cP al=true/\w.length<=50000/\∀b∈w,okB b=true/\cN al (ltr b)=true:=by
 unfold dQ at hw;simp only[Ar,decide_eq_true_eq]at hw;refine⟨hw.1.1,hw.1.2,?_⟩;intro b hb;have:=Bk.1 hw.2 b hb;unfold inB at this
 simpa only[Ar]using this
section
def goS(a:Aut)(v l:Int):Int:=goI a.al a.nx v l
def rowA(a:Aut)(v:Int):List Int:=a.nx.getD v.toNat []
def ordA(a:Aut):List Int:=ordB (goS a) (aB a.al) (a.nx.length+1) 0 [0]
def idxU(out:List Int)(x:Int):Int:=(out.idxOf x:Nat)
def a7(a:Aut):Aut:=⟨a.al,(ordA a).map fun v=>(rowA a v).map (idxU (ordA a)),(ordA a).map fun v=>a.ac.getD v.toNat false⟩
theorem oA{a:Aut}(h:AOK a):∀v l:Int,0<=v->v<a.nx.length->l∈aB a.al->0<=goS a v l/\goS a v l<a.nx.length:=by
 intro v l h0 h1 hl;have:=b9 l hl;exact pA h h0 h1 this.1 om
theorem aRt{al:Int}{k:Nat}(hk:k<(aB al).length):gI al (aB al)[k]=k:=by
 obtain⟨⟨h0,h1⟩,hb⟩:=fR.1 (At hk);obtain⟨h2,h3⟩:=tJ h0 h1 hb;rw[Ad h2]at h3;exact(List.getElem_inj (WU al)).1 (Option.some.inj h3)
theorem DV{a:Aut}(h:AOK a){v:Int}(h0:0<=v)(h1:v<a.nx.length):(aB a.al).map (goS a v)=rowA a v:=by
 have hl:=(gL h (i:=v.toNat) om).1;apply List.ext_getElem
 ·rw[Am];exact hl.symm
 ·intro k g1 g2;rw[Am]at g1;rw[Du];unfold goS;rw[JA (fR.1 (At g1)).2,aRt g1];show(rowA a v).getD k 0=_;rw[Aa,Ad g2];rfl
theorem gK{a:Aut}(h:AOK a):∃W,Bfs (goS a) (aB a.al) a.nx.length (ordA a).length [] (ordA a) W:=by
 obtain⟨_,_,h1,_,_⟩:=aR h;exact aPl (lE _) (oA h) _ 0 [0] _ (Bfs.start om) om om
theorem aLU{a:Aut}:∀(w:List Int) (v u:Int),Path (nxS a) (aB a.al) v w u↔(∀l∈w,l∈aB a.al)/\w.foldl (goS a) v=u
 | [],v,u=>by simp[Path]
 |l::w,v,u=>by
  simp only[Path,nxS,Bf,exists_eq_left,aLU w,Dc,List.forall_mem_cons];unfold goS;exact and_assoc.symm
theorem MG{a:Aut}{st:Int}{w:List Int}:Hits (nxS a) (aB a.al) [0] (glS st) w↔(∀l∈w,l∈aB a.al)/\w.foldl (goS a) 0=st:=by
 unfold Hits sB glS;simp only[Bf,exists_eq_left,aLU,decide_eq_true_eq]
 constructor
 ·rintro⟨u,⟨h1,h2⟩,rfl⟩;exact⟨h1,h2⟩
 ·rintro⟨h1,h2⟩;exact⟨st,⟨h1,h2⟩,rfl⟩
section
variable{a:Aut}{W:Nat->List Int}
theorem oY{x:Int}{out:List Int}(hx:x∈out):out.getD (out.idxOf x) 0=x/\out.idxOf x<out.length:=by
 have h:=El hx;refine⟨?_,h⟩;rw[Aa,Ad h,List.getElem_idxOf];rfl
theorem jH{q:Nat}{out:List Int}(hq:q<out.length):out.getD q 0∈out:=by
 rw[Aa,Ad hq];exact At hq
theorem J4(h:AOK a)(hB:Bfs (goS a) (aB a.al) a.nx.length (ordA a).length [] (ordA a) W){q:Nat}(hq:q<(ordA a).length):oneG a ((ordA a).getD q 0)=(W q,true):=by
 refine tO (I6 h _) (.inl ⟨rfl,MG.2 ⟨hB.lts q hq,hB.run q hq⟩,fun x hx=> ?_⟩);obtain⟨h1,h2⟩:=MG.1 hx;obtain⟨p,hp,e,hs⟩:=hB.least x.length x rfl h1;have:p=q:=hB.idx hp hq (by rw[e,h2]);subst this;exact hs
theorem aTX(h:AOK a){st:Int}(ho:st∉ordA a):oneG a st=([],false):=by
 obtain⟨W,hB⟩:=gK h;refine tO (I6 h _) (.inr ⟨rfl,fun w hw=> ?_⟩);obtain⟨h1,h2⟩:=MG.1 hw;obtain⟨p,hp,e,_⟩:=hB.least w.length w rfl h1;rw[h2]at e;exact ho (e▸jH hp)
theorem IA(hB:Bfs (goS a) (aB a.al) a.nx.length (ordA a).length [] (ordA a) W){v l:Int}(hv:v∈ordA a)(hl:l∈aB a.al):goS a v l∈ordA a:=by
 obtain⟨e,hq⟩:=oY hv;obtain⟨p,hp,e2,_⟩:=hB.clo _ l hq hl (.inl hq);rw[e]at e2;exact e2▸jH hp
theorem DW(h:AOK a):AOK (a7 a):=by
 obtain⟨W,hB⟩:=gK h;obtain⟨b1,b2,b3,b4⟩:=fK h;have hn:=dX hB.nod hB.rng;have hp:=hB.pos;unfold AOK a7;refine aEx b4 (by rw[Am];omega) (by rw[Am];omega) (by rw[Am,Am]) ?_;intro r hr;obtain⟨v,hv,rfl⟩:=Av.1 hr;obtain⟨v0,v1⟩:=hB.rng v hv;have hrow:=DV h v0 v1;refine⟨by rw[Am,<-hrow,Am],?_⟩;intro q hq;obtain⟨x,hx,rfl⟩:=Av.1 hq;rw[<-hrow]at hx;obtain⟨l,hl,rfl⟩:=Av.1 hx;have:=(oY (IA hB hv hl)).2;unfold idxU;rw[Am];omega
theorem aVH(h:AOK a)(hB:Bfs (goS a) (aB a.al) a.nx.length (ordA a).length [] (ordA a) W){q:Nat}(hq:q<(ordA a).length){l:Int}(hl:l∈aB a.al):goS (a7 a) q l=idxU (ordA a) (goS a ((ordA a).getD q 0) l):=by
 obtain⟨⟨h0,h1⟩,hb⟩:=fR.1 hl;obtain⟨v0,v1⟩:=hB.rng _ (jH hq);obtain⟨p1,p2⟩:=tJ h0 h1 hb;have hlen:=(gL h (i:=((ordA a).getD q 0).toNat) om).1
 have e1:((a7 a).nx.getD q [])=(rowA a ((ordA a).getD q 0)).map (idxU (ordA a)):=by
  unfold a7;simp only[Aa,Bh,Ad hq,Bb,Bg]
 unfold goS;rw[JA hb,JA (show cN (a7 a).al l=true from hb),Ca,e1];show((rowA a ((ordA a).getD q 0)).map (idxU (ordA a))).getD (gI a.al l) 0=_;have hr:gI a.al l<(rowA a ((ordA a).getD q 0)).length:=by unfold rowA;omega
 rw[Aa,Bh,Ad hr,Aa (l:=a.nx.getD _ _)];show idxU _ (rowA a ((ordA a).getD q 0))[gI a.al l]=idxU _ ((rowA a ((ordA a).getD q 0))[gI a.al l]?.getD 0);rw[Ad hr];rfl
theorem aDj(h:AOK a)(hB:Bfs (goS a) (aB a.al) a.nx.length (ordA a).length [] (ordA a) W):∀(w:List Int) (q:Nat),q<(ordA a).length->(∀l∈w,l∈aB a.al)->w.foldl (goS a) ((ordA a).getD q 0)∈ordA a/\w.foldl (goS (a7 a)) (q:Int)=idxU (ordA a) (w.foldl (goS a) ((ordA a).getD q 0))
 | [],q,hq,_=>by
  refine⟨jH hq,?_⟩;unfold idxU;simp only[List.foldl_nil];have:=hB.nod.idxOf_getElem q hq;rw[Aa,Ad hq,Bg,this]
 |l::w,q,hq,hw=>by
  have hl:=hw l Bd;obtain⟨e,hp⟩:=oY (IA hB (jH hq) hl);have ih:=aDj h hB w _ hp fun m hm=>hw m (Az _ hm);rw[e]at ih;simp only[Dc];rw[aVH h hB hq hl];exact ih
theorem aSN(h:AOK a)(hB:Bfs (goS a) (aB a.al) a.nx.length (ordA a).length [] (ordA a) W){q:Nat}(hq:q<(ordA a).length):oneG (a7 a) q=(W q,true):=by
 rw[<-J4 h hB hq];refine tO (TM (fun w=> ?_) (I6 (DW h) q)) (I6 h _);rw[MG,MG];show(∀l∈w,l∈aB a.al)/\_↔_;refine and_congr_right fun hw=> ?_;obtain⟨h1,h2⟩:=aDj h hB w 0 hB.pos hw;rw[hB.o0]at h1 h2;have h3:w.foldl (goS (a7 a)) 0=idxU (ordA a) (w.foldl (goS a) 0):=h2;rw[h3];obtain⟨e,hp⟩:=oY h1;unfold idxU
 constructor
 ·intro hh;have:(ordA a).idxOf (w.foldl (goS a) 0)=q:=om;rw[this]at e;exact e.symm
 ·intro hh;rw[hB.idx hp hq (by rw[e,hh])]
end
theorem aJe{l:Int}(h0:0<=l)(h1:l<6):(bU l).toNat=(97+l).toNat:=by
 unfold bU;rw[UInt8.toNat_ofNat'];omega
theorem aPi:∀ {u v:List Int},(∀l∈u,0<=l/\l<6)->(∀l∈v,0<=l/\l<6)->rZ u v->Op.bytesLess (txt u) (txt v)=true
 | [],_,_,_,h=>h.elim
 |_::_,[],_,_,h=>h.elim
 |a::u,b::v,hu,hv,h=>by
  have ha:=hu a Bd;have hb:=hv b Bd;show Op.bytesLess (bU a::txt u) (bU b::txt v)=true;rw[oT,aJe ha.1 ha.2,aJe hb.1 hb.2]
  rcases h with h|⟨rfl,h⟩
  ·exact .inl om
  ·exact .inr ⟨rfl,aPi (fun l hl=>hu l (Az _ hl)) (fun l hl=>hv l (Az _ hl)) h⟩
theorem aVI{u v:List Int}(hu:∀l∈u,0<=l/\l<6)(hv:∀l∈v,0<=l/\l<6)(h:slt u v):cmpX (txt u) (txt v)<0:=by
 rw[JD];unfold txt;rw[Am,Am]
 rcases h with h|⟨h1,h⟩
 ·exact .inl h
 ·exact .inr ⟨h1,aPi hu hv h⟩
def bX(a:Aut):List Str:=(List.range (ordA a).length).map fun q=>txt (oneG a ((ordA a).getD q 0)).1
def gT(a:Aut)(j i:Nat):List Str:=(List.range' i j).filterMap fun q=>if(oneG a (q:Nat)).2=true then some (txt (oneG a (q:Nat)).1)else none
def aHh(l:List Str):List Str:=l.mergeSort leX
section
variable{a:Aut}{W:Nat->List Int}
theorem y5(h:AOK a)(hB:Bfs (goS a) (aB a.al) a.nx.length (ordA a).length [] (ordA a) W):bX a=(List.range (ordA a).length).map fun q=>txt (W q):=by
 unfold bX;apply Cw;intro q hq;rw[J4 h hB (Ci.1 hq)]
theorem aBe(hB:Bfs (goS a) (aB a.al) a.nx.length (ordA a).length [] (ordA a) W){j k:Nat}(hjk:j<k)(hk:k<(ordA a).length):cmpX (txt (W j)) (txt (W k))<0:=by
 have hin:∀q,q<(ordA a).length->∀l∈W q,0<=l/\l<6:=fun q hq l hl=>by
  have:=b9 l (hB.lts q hq l hl);omega
 exact aVI (hin j om) (hin k hk) (hB.asc j k hjk hk)
theorem aTn(hB:Bfs (goS a) (aB a.al) a.nx.length (ordA a).length [] (ordA a) W){j k:Nat}(hj:j<(ordA a).length)(hk:k<(ordA a).length)(e:txt (W j)=txt (W k)):j=k:=by
 rcases Dd j k with h|h|h
 ·have:=aBe hB h hk;rw[e]at this;exact(I4 _ this).elim
 ·exact h
 ·have:=aBe hB h hj;rw[e]at this;exact(I4 _ this).elim
theorem aRj(hB:Bfs (goS a) (aB a.al) a.nx.length (ordA a).length [] (ordA a) W):((List.range (ordA a).length).map fun q=>txt (W q)).Pairwise fun x y=>cmpX x y<0:=by
 rw[List.pairwise_map];refine List.Pairwise.imp_of_mem ?_ (List.pairwise_lt_range (n:=(ordA a).length));intro j k hj hk hjk;exact aBe hB hjk (Ci.1 hk)
theorem aQj(h:AOK a):aHh (gT a a.nx.length 0)=bX a:=by
 obtain⟨W,hB⟩:=gK h;rw[y5 h hB];have hasc:=aRj hB
 have hfd:∀(q:Nat) (b:Str),(if(oneG a (q:Nat)).2=true then some (txt (oneG a (q:Nat)).1)else none)=some b->∃p,p<(ordA a).length/\(ordA a).getD p 0=(q:Int)/\b=txt (W p):=by
  intro q b hb
  by_cases hq:(q:Int)∈ordA a
  ·obtain⟨e,hp⟩:=oY hq;have:=J4 h hB hp;rw[e]at this;rw[this]at hb;simp at hb;exact⟨_,hp,e,hb.symm⟩
  ·rw[aTX h hq]at hb;simp at hb
 unfold aHh;refine((List.mergeSort_perm _ _).trans ((List.perm_ext_iff_of_nodup ?_ ?_).2 ?_)).eq_of_pairwise (fun x y _ _ h1 h2=>aEk h1 h2) (List.pairwise_mergeSort NA NQ _) (hasc.imp aS2)
 ·unfold gT;refine List.Pairwise.filterMap _ ?_ (List.nodup_range' (s:=0) (n:=a.nx.length));intro p q hpq b hb c hc e;obtain⟨p1,g1,g2,g3⟩:=hfd p b hb;obtain⟨q1,k1,k2,k3⟩:=hfd q c hc;have:=aTn hB g1 k1 (by rw[<-g3,<-k3,e]);subst this;rw[g2]at k2;exact hpq om
 ·exact hasc.imp fun {x y} hxy e=>by rw[e]at hxy;exact I4 _ hxy
 ·intro b;unfold gT;rw[List.mem_filterMap,Av]
  constructor
  ·rintro⟨q,hq,hb⟩;obtain⟨p,h1,_,h3⟩:=hfd q b hb;exact⟨p,Ci.2 h1,h3.symm⟩
  ·rintro⟨p,hp,rfl⟩;have hp:=Ci.1 hp;obtain⟨v0,v1⟩:=hB.rng _ (jH hp);refine⟨((ordA a).getD p 0).toNat,?_,?_⟩
   ·rw[Cy];omega
   ·rw[Bl v0,J4 h hB hp,if_pos rfl]
end
end
end Ev
end Go.Proofs.YtppffbehejpglaaGreatDoor
