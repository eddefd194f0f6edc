/-
  The least automaton: plain laws.
-/
import Derived.Test.YtppffbehejpglaaGreatDoorClassS
import Derived.Test.YtppffbehejpglaaGreatDoorTrimL
import Derived.Test.YtppffbehejpglaaGreatDoorFail
import Derived.Test.YtppffbehejpglaaGreatDoorSuiteS
import Derived.Test.YtppffbehejpglaaGreatDoorPathZ
set_option linter.unusedSimpArgs false
set_option linter.unusedVariables false
set_option linter.unusedSectionVars false
set_option maxRecDepth 8000
set_option maxHeartbeats 4000000
namespace Go.Proofs.YtppffbehejpglaaGreatDoor
namespace Ev
def quoG(a:Aut)(cl:List Int):Nat->Nat->List (List Int)->List Bool->List (List Int)×List Bool
 |0,_,d,b=>(d,b)
 |j+1,q,d,b=>if cl.getD q 0<d.length then quoG a cl j (q+1) d b else quoG a cl j (q+1) (d++[(a.nx.getD q []).map (clA cl)]) (b++[acQ a q])
def quoA(a:Aut):Aut:=⟨a.al,(quoG a (bA a) a.nx.length 0 [] []).1,(quoG a (bA a) a.nx.length 0 [] []).2⟩
def minA(a:Aut):Aut:=a7 (quoA a)
structure Quo(a:Aut)(l:List (List Int))(cl:List Int)(q:Nat)(d:List (List Int))(b:List Bool):Prop where
 len:d.length=(aO (l.take q)).length
 blen:b.length=d.length
 low:∀p,p<q->0<=cl.getD p 0/\cl.getD p 0<d.length
 row:∀p,p<q->d.getD (cl.getD p 0).toNat []=(a.nx.getD p []).map (clA cl)
 acc:∀p,p<q->b.getD (cl.getD p 0).toNat false=acQ a p
 mem:∀r∈d,∃p,p<q/\r=(a.nx.getD p []).map (clA cl)
theorem aJP{α:Type}[DecidableEq α]{l:List α}{q:Nat}(hq:q<l.length):(numL l).getD q 0=((idxG (addG (aO (l.take q)) l[q]) l[q]:Nat):Int):=by
 have e:l=(l.take q++[l[q]])++l.drop (q+1):=smp
 have key:∀(u v:List α) (i:Nat),i<u.length->(numL (u++v)).getD i 0=(numL u).getD i 0:=by
  intro u v
  induction v generalizing u with
  |nil=>intro i hi;rw[Ai]
  |cons x v ih=>
   intro i hi;have:u++x::v=(u++[x])++v:=smp;rw[this,ih (u++[x]) i (by simp;omega),s9,Aa,Be (by rw[nH];exact hi),Aa]
 have h1:=key (l.take q++[l[q]]) (l.drop (q+1)) q (by simp;omega);rw[<-e]at h1;rw[h1,s9,Aa,Bo (by rw[nH,Bi];omega)];have e2:q-(numL (l.take q)).length=0:=by rw[nH,Bi];omega
 rw[e2];rfl
theorem aTm{a:Aut}{l:List (List Int)}{cl:List Int}(hcl:cl=numL l)(hl:l.length=a.nx.length)(hst:∀i j:Nat,i<a.nx.length->j<a.nx.length->cl.getD i 0=cl.getD j 0->(a.nx.getD i []).map (clA cl)=(a.nx.getD j []).map (clA cl)/\acQ a i=acQ a j){q:Nat}{d:List (List Int)}{b:List Bool}(hq:q<a.nx.length)(h:Quo a l cl q d b):
  if cl.getD q 0<d.length then Quo a l cl (q+1) d b else Quo a l cl (q+1) (d++[(a.nx.getD q []).map (clA cl)]) (b++[acQ a q]):=by
 have hv:=aJP (l:=l) (q:=q) om;rw[<-hcl]at hv;have htk:l.take (q+1)=l.take q++[l[q]'om]:=by rw[Cz,Ad om];rfl
 have hsame:∀p (hp:p<q),(cl.getD p 0=cl.getD q 0↔l[p]'om=l[q]'om):=by
  intro p hp;rw[hcl];exact aHk om om
 by_cases hin:l[q]'om∈l.take q
 ·have hin2:=bR.2 hin;rw[RV hin2]at hv;have hlt:=aOT hin2;have hc:cl.getD q 0<d.length:=by rw[hv,h.len];omega
  rw[if_pos hc];obtain⟨p,hp,e⟩:=Bz hin;rw[Bi]at hp;rw[List.getElem_take]at e;have hpq:p<q:=om;have ec:=(hsame p hpq).2 e;refine⟨by rw[htk,gP,RV hin2];exact h.len,h.blen,?_,?_,?_,?_⟩
  ·intro r hr
   by_cases hr2:r=q
   ·subst hr2;exact⟨by rw[hv];omega,hc⟩
   ·exact h.low r om
  ·intro r hr
   by_cases hr2:r=q
   ·subst hr2;rw[<-ec,h.row p hpq];exact(hst p r om hq ec).1
   ·exact h.row r om
  ·intro r hr
   by_cases hr2:r=q
   ·subst hr2;rw[<-ec,h.acc p hpq];exact(hst p r om hq ec).2
   ·exact h.acc r om
  ·intro r hr;obtain⟨p,hp,e⟩:=h.mem r hr;exact⟨p,by omega,e⟩
 ·have hin2:l[q]'om∉aO (l.take q):=fun hh=>hin (bR.1 hh);have hnew:=aEw hin2;rw[DF hin2,hnew]at hv;have hv2:cl.getD q 0=d.length:=by rw[hv,h.len]
  have hc:¬cl.getD q 0<d.length:=om;rw[if_neg hc];refine⟨by rw[htk,gP,DF hin2,Af,Af,h.len];rfl,by rw[Af,Af,h.blen];rfl,?_,?_,?_,?_⟩
  ·intro r hr;rw[Af]
   by_cases hr2:r=q
   ·subst hr2;simp only[Ae,Ac];omega
   ·have:=h.low r om;omega
  ·intro r hr
   by_cases hr2:r=q
   ·subst hr2;rw[hv2,Ca,Aa];simp
   ·have:=h.low r om;rw[Aa,Be om,<-Aa];exact h.row r om
  ·intro r hr
   by_cases hr2:r=q
   ·subst hr2;rw[hv2,Ca,<-h.blen,Aa];simp
   ·have:=h.low r om;have hb:=h.blen;rw[Aa,Be om,<-Aa];exact h.acc r om
  ·intro r hr
   rcases Ak.1 hr with hr|hr
   ·obtain⟨p,hp,e⟩:=h.mem r hr;exact⟨p,by omega,e⟩
   ·simp only[Bf]at hr;exact⟨q,by omega,hr⟩
theorem aIe{a:Aut}{l:List (List Int)}{cl:List Int}(hcl:cl=numL l)(hl:l.length=a.nx.length)(hst:∀i j:Nat,i<a.nx.length->j<a.nx.length->cl.getD i 0=cl.getD j 0->(a.nx.getD i []).map (clA cl)=(a.nx.getD j []).map (clA cl)/\acQ a i=acQ a j):∀(j q:Nat) (d:List (List Int)) (b:List Bool),q+j=a.nx.length->Quo a l cl q d b->Quo a l cl a.nx.length (quoG a cl j q d b).1 (quoG a cl j q d b).2
 |0,q,d,b,hj,h=>by
  obtain rfl:q=a.nx.length:=om;exact h
 |j+1,q,d,b,hj,h=>by
  have hs:=aTm hcl hl hst om h;unfold quoG
  by_cases hc:cl.getD q 0<d.length
  ·rw[if_pos hc]at hs|-;exact aIe hcl hl hst j (q+1) _ _ om hs
  ·rw[if_neg hc]at hs|-;exact aIe hcl hl hst j (q+1) _ _ om hs
structure QuoOK(a:Aut):Prop where
 ok:AOK (quoA a)
 zero:(bA a).getD 0 0=0
 low:∀q:Nat,q<a.nx.length->0<=(bA a).getD q 0/\(bA a).getD q 0<(quoA a).nx.length
 go:∀q:Nat,q<a.nx.length->∀l∈aB a.al,goS (quoA a) ((bA a).getD q 0) l=clA (bA a) (goS a q l)
 acc:∀q:Nat,q<a.nx.length->acQ (quoA a) ((bA a).getD q 0)=acQ a q
theorem BT{a:Aut}(h:AOK a):QuoOK a:=by
 obtain⟨l,e,hl,hrng,hp⟩:=DY h;obtain⟨a1,a2,a3,ha⟩:=fK h
 have hst:∀i j:Nat,i<a.nx.length->j<a.nx.length->(bA a).getD i 0=(bA a).getD j 0->(a.nx.getD i []).map (clA (bA a))=(a.nx.getD j []).map (clA (bA a))/\acQ a i=acQ a j:=by
  intro i j hi hj he;have hq:=(hp i j hi hj).1 he;refine⟨?_,hq [] smp⟩;rw[uD h hi,uD h hj];apply Cw;intro m hm;obtain⟨p,e1,hp1⟩:=uL h hi hm;obtain⟨r,e2,hr1⟩:=uL h hj hm;have:=aF9 hq hm;rw[e1,e2]at this|-;exact(hp p r hp1 hr1).2 this
 have hQ:=aIe e hl hst a.nx.length 0 [] [] om ⟨by simp[aO],rfl,fun p hp=>by omega,fun p hp=>by omega,fun p hp=>by omega,fun r hr=>by cases hr⟩;have hfl:=kS (l.take a.nx.length);rw[Bi]at hfl;have hlen:=hQ.len;have hlow0:=hQ.low 0 om
 have hok:AOK (quoA a):=by
  refine aEx ha (by show 1<=(quoG a (bA a) a.nx.length 0 [] []).1.length;omega) (by show(quoG a (bA a) a.nx.length 0 [] []).1.length<=12;omega) hQ.blen ?_;intro r hr;obtain⟨p,hp1,rfl⟩:=hQ.mem r hr;rw[uD h hp1];refine⟨Am _,?_⟩;intro x hx;obtain⟨m,hm,rfl⟩:=Av.1 hx;obtain⟨r,e1,hr1⟩:=uL h hp1 hm;rw[e1];exact hQ.low r hr1
 refine⟨hok,?_,hQ.low,?_,hQ.acc⟩
 ·rw[e];have:=aJP (l:=l) (q:=0) om;rw[this];simp[aO,addG,idxG]
 ·intro q hq m hm;obtain⟨⟨m0,m1⟩,hb⟩:=fR.1 hm;obtain⟨p1,p2⟩:=tJ m0 m1 hb;unfold goS;rw[JA (show cN (quoA a).al m=true from hb),JA hb];have hr:=hQ.row q hq;show((quoG a (bA a) a.nx.length 0 [] []).1.getD ((bA a).getD q 0).toNat []).getD (gI a.al m) 0=_;rw[hr,Ca];have hw:=(gL h (i:=q) hq).1;rw[Aa,Bh,Ad om,Aa (l:=a.nx.getD q []),Ad om];rfl
theorem aBh{a:Aut}(h:AOK a):∀(w:List Int) (q:Nat),q<a.nx.length->(∀l∈w,l∈aB a.al)->∃p:Nat,p<a.nx.length/\w.foldl (goS a) q=p/\w.foldl (goS (quoA a)) ((bA a).getD q 0)=(bA a).getD p 0
 | [],q,hq,_=>⟨q,hq,rfl,rfl⟩
 |l::w,q,hq,hw=>by
  have hl:=hw l Bd;obtain⟨p,e,hp⟩:=uL h hq hl;obtain⟨r,hr,e1,e2⟩:=aBh h w p hp fun x hx=>hw x (Az _ hx);refine⟨r,hr,by simp only[Dc];rw[e,e1],?_⟩;simp only[Dc];rw[(BT h).go q hq l hl,e];exact e2
def accI(a:Aut)(w:List Int):Bool:=acQ a (w.foldl (goS a) 0)
theorem aVC{a:Aut}(h:AOK a){w:List Int}(hw:∀l∈w,l∈aB a.al):accI (quoA a) w=accI a w:=by
 obtain⟨_,_,a1,_,_⟩:=aR h;obtain⟨p,hp,e1,e2⟩:=aBh h w 0 om hw;rw[(BT h).zero]at e2;unfold accI;have e3:w.foldl (goS a) 0=(p:Int):=e1;rw[e2,e3];exact(BT h).acc p hp
theorem aTv{a:Aut}(h:AOK a){w:List Int}(hw:∀l∈w,l∈aB a.al):accI (a7 a) w=accI a w:=by
 obtain⟨W,hB⟩:=gK h;obtain⟨h1,h2⟩:=aDj h hB w 0 hB.pos hw;rw[hB.o0]at h1 h2;have h3:w.foldl (goS (a7 a)) 0=idxU (ordA a) (w.foldl (goS a) 0):=h2;unfold accI;rw[h3];obtain⟨e,hp⟩:=oY h1;unfold acQ idxU a7;simp only;rw[Ca,Aa,Bh,Ad hp];show a.ac.getD ((ordA a)[List.idxOf (List.foldl (goS a) 0 w) (ordA a)]).toNat false=_;rw[List.getElem_idxOf]
theorem aAM{a:Aut}(h:AOK a):AOK (minA a):=DW (BT h).ok
theorem aPy{a:Aut}(h:AOK a){w:List Int}(hw:∀l∈w,l∈aB a.al):accI (minA a) w=accI a w:=by
 unfold minA;rw[aTv (BT h).ok hw,aVC h hw]
theorem NU{a:Aut}(h:AOK a)(v:Int):v∈ordA a↔∃w:List Int,(∀l∈w,l∈aB a.al)/\w.foldl (goS a) 0=v:=by
 obtain⟨W,hB⟩:=gK h
 constructor
 ·intro hv;obtain⟨e,hp⟩:=oY hv;exact⟨W _,hB.lts _ hp,by rw[hB.run _ hp,e]⟩
 ·rintro⟨w,hw,rfl⟩;obtain⟨q,hq,e,_⟩:=hB.least w.length w rfl hw;rw[<-e];exact jH hq
theorem aV0(a:Aut):(minA a).nx.length=(ordA (quoA a)).length:=Am _
section
section
variable{a:Aut}{x y:Int}
end
end
section
variable{R:Type}{L n:Nat}
def Over(al:Int)(w:List Int):Prop:=∀l∈w,l∈aB al
theorem OI{a b:Aut}(h:AOK a)(hb:AOK b)(hal:a.al=b.al):∀(w:List Int) (i j u:Int),0<=i->i<a.nx.length->0<=j->j<b.nx.length->
  (Path (nxT a b) (aB a.al) (i*b.nx.length+j) w u↔Over a.al w/\u=w.foldl (goS a) i*b.nx.length+w.foldl (goS b) j)
 | [],i,j,u,_,_,_,_=>by
  simp only[Path,List.foldl_nil]
  constructor
  ·rintro rfl;exact⟨by simp[Over],rfl⟩
  ·rintro⟨_,rfl⟩;rfl
 |l::w,i,j,u,i0,i1,j0,j1=>by
  obtain⟨e1,e2⟩:=zP (n:=(b.nx.length:Int)) om i0 j0 j1;simp only[Path,nxT,e1,e2,Bf,exists_eq_left]
  constructor
  ·rintro⟨hl,hp⟩;have gi:=oA h i l i0 i1 hl;have gj:=oA hb j l j0 j1 (hal▸hl);obtain⟨h1,h2⟩:=(OI h hb hal w (goS a i l) (goS b j l) u gi.1 gi.2 gj.1 gj.2).1 hp;exact⟨fun x hx=>(Au.1 hx).elim (fun e=>e▸hl) (h1 x),h2⟩
  ·rintro⟨hw,hu⟩;have hl:=hw l Bd;have gi:=oA h i l i0 i1 hl;have gj:=oA hb j l j0 j1 (hal▸hl);exact⟨hl,(OI h hb hal w (goS a i l) (goS b j l) u gi.1 gi.2 gj.1 gj.2).2 ⟨fun x hx=>hw x (Az _ hx),hu⟩⟩
theorem aHy{a:Aut}(h:AOK a):∀(w:List Int) (q:Int),Over a.al w->0<=q->q<a.nx.length->0<=w.foldl (goS a) q/\w.foldl (goS a) q<a.nx.length
 | [],q,_,h0,h1=>⟨h0,h1⟩
 |l::w,q,hw,h0,h1=>by
  have hg:=oA h q l h0 h1 (hw l Bd);exact aHy h w _ (fun x hx=>hw x (Az _ hx)) hg.1 hg.2
def aMy(a b:Aut)(w:List Int):Prop:=Over a.al w/\accI a w≠accI b w
theorem aNT{a b:Aut}(h:AOK a)(hb:AOK b)(hal:a.al=b.al)(w:List Int):
  Hits (nxT a b) (aB a.al) [0*(b.nx.length:Int)+0] (glT (fun x y=>x !=y) a b) w↔aMy a b w:=by
 obtain⟨_,_,a1,_,_⟩:=aR h;obtain⟨_,_,b1,_,_⟩:=aR hb
 have key:Over a.al w->glT (fun x y=>x !=y) a b (w.foldl (goS a) 0*b.nx.length+w.foldl (goS b) 0)=(accI a w !=accI b w):=by
  intro hw;have ri:=aHy h w 0 hw om om;have rj:=aHy hb w 0 (hal▸hw) om om;obtain⟨e1,e2⟩:=zP (n:=(b.nx.length:Int)) om ri.1 rj.1 rj.2;unfold glT;rw[e1,e2];rfl
 unfold Hits sB aMy;simp only[Bf,exists_eq_left]
 constructor
 ·rintro⟨u,hp,hg⟩;obtain⟨h1,rfl⟩:=(OI h hb hal w 0 0 u om om om om).1 hp;rw[key h1]at hg;exact⟨h1,by simpa using hg⟩
 ·rintro⟨h1,h2⟩;exact⟨_,(OI h hb hal w 0 0 _ om om om om).2 ⟨h1,rfl⟩,by rw[key h1];simpa using h2⟩
theorem aE5{a b:Aut}(h:AOK a)(hb:AOK b)(hal:a.al=b.al):ED (aMy a b) (twoG (fun x y=>x !=y) a b 0 0):=by
 obtain⟨_,_,a1,_,_⟩:=aR h;obtain⟨_,_,b1,_,_⟩:=aR hb;refine TM (aNT h hb hal) ?_;refine aBi (lE _) (fun v c h0 h1 hc m hm=> ?_) (fun n hn=> ?_) smp
 ·have:=b9 c hc;rw[Cf]at h1|-;exact Q7 h hb h0 h1 ⟨this.1,by omega⟩ m hm
 ·simp only[Bf]at hn;subst hn;rw[Cf];exact DZ om om
def S3(a b:Aut):Str×Bool:=if jS a b=true then(txt (twoG (fun x y=>x !=y) a b 0 0).1,(twoG (fun x y=>x !=y) a b 0 0).2)else([],false)
def aE3(a b:Aut):Bool:=jS a b&& !(S3 a b).2
theorem aTp{a b:Aut}:aE3 a b=true↔AOK a/\AOK b/\a.al=b.al/\∀w,Over a.al w->accI a w=accI b w:=by
 unfold aE3;rw[Ar,m6]
 constructor
 ·rintro⟨⟨ha,hb,hal⟩,hd⟩;refine⟨ha,hb,hal,fun w hw=> ?_⟩;unfold S3 at hd;rw[if_pos (m6.2 ⟨ha,hb,hal⟩)]at hd
  rcases aE5 ha hb hal with⟨h1,_⟩|⟨_,h2⟩
  ·rw[h1]at hd;cases hd
  ·exact Dv fun hc=>h2 w ⟨hw,hc⟩
 ·rintro⟨ha,hb,hal,hs⟩;refine⟨⟨ha,hb,hal⟩,?_⟩;unfold S3;rw[if_pos (m6.2 ⟨ha,hb,hal⟩)]
  rcases aE5 ha hb hal with⟨_,h1,_⟩|⟨h1,_⟩
  ·exact absurd (hs _ h1.1) h1.2
  ·rw[h1];rfl
theorem aEj(hn:1<=n)(x y:Bool):aA env L n 56 [.d (.bool x),.d (.bool y)] []=some (.d (.bool (x !=y)),[]):=by
 obtain _|n:=n;omega
 simp-implicitDefEqProofs (maxSteps:=9^7) (disch:=try exact Dz) only[↓DN,↓kAsg,↓kRet,UP,simprocAttr,aEI,OL,Tryz.f56]
 all_goals (cases x<;>cases y<;>rfl)
theorem aD4{hq:H}{k:KA R}(hn:1<=n)(x y:Bool):aX env (aA env L n) hq 56 [.d (.bool x),.d (.bool y)] k=k (.d (.bool (x !=y))) hq:=
 bS rfl (aEj hn x y) rfl (.inl rfl)
theorem V2(hn:9<=n)(a b:Aut)(sa:aW a.nx)(sb:aW b.nx)(ha:a.ac.length<=4294967296)(hb:b.ac.length<=4294967296)(hL:2^60<=L):aA env L n 26 [.agg [nI a.al,.d (.ivs a.nx.length (aE a.nx)),.d (.ivs a.ac.length (aD a.ac))],.agg [nI b.al,.d (.ivs b.nx.length (aE b.nx)),.d (.ivs b.ac.length (aD b.ac))]] []=some (.tup [.d (.str (S3 a b).1),.d (.bool (S3 a b).2)],[]):=by
 have kc_c:=@pV L a b sa sb ha hb hL;have hra:=sa.1;have hrb:=sb.1;unfold S3
 cases hcm:jS a b with
 |false=>
  rw[hcm]at kc_c;simp only[Al,if_false];obtain _|n:=n;omega
  simp-implicitDefEqProofs (maxSteps:=9^7) (disch:=try exact Dz) only[↓DN,↓kAsg,↓kRet,UP,simprocAttr,↓kc_c,VY,JJ,Tryz.f26]
 |true=>
  rw[hcm]at kc_c;obtain⟨va,vb,hal⟩:=m6.1 hcm;obtain⟨_,_,a1,a2,a3⟩:=aR va;obtain⟨_,_,b1,b2,b3⟩:=aR vb;have kl_b:=fun {R:Type} {n:Nat} {k:A->Option R} (hn:8<=n)=>lT (call:=aA env L n) (k:=k) (f:=55) (@MV L n hn hL a b (fun x y=>x !=y) 56 tZ (fun x y {R n hq k} hn=>aD4 hn x y) va vb 0 0 ⟨by omega,by omega⟩ ⟨by omega,by omega⟩) rfl;have kv_l:=fun {R:Type} {n:Nat} {hq:H} {args:List A} {k:KA R}=>d7 (E:=env) (call:=aA env L n) (h:=hq) (k:=k) (args:=args) mP;simp only[if_true];generalize twoG (fun x y=>x !=y) a b 0 0=r at *;obtain _|n:=n;omega
  simp-implicitDefEqProofs (maxSteps:=9^7) (disch:=try exact Dz) only[↓DN,↓kAsg,↓kRet,UP,simprocAttr,↓kc_c,↓kv_l,↓kl_b,VY,JJ,Tryz.f26]
theorem aKK:type_of% fun {L} a b sa sb ha hb hL=>ks fun hn=> @V2 L _ hn a b sa sb ha hb hL:=fun {L} a b sa sb ha hb hL=>ks fun hn=> @V2 L _ hn a b sa sb ha hb hL
theorem HE(hn:10<=n)(a b:Aut)(sa:aW a.nx)(sb:aW b.nx)(ha:a.ac.length<=4294967296)(hb:b.ac.length<=4294967296)(hL:2^60<=L):aA env L n 11 [.agg [nI a.al,.d (.ivs a.nx.length (aE a.nx)),.d (.ivs a.ac.length (aD a.ac))],.agg [nI b.al,.d (.ivs b.nx.length (aE b.nx)),.d (.ivs b.ac.length (aD b.ac))]] []=some (.d (.bool (aE3 a b)),[]):=by
 have kc_c:=@pV L a b sa sb ha hb hL;have kc_d:=@aKK L a b sa sb ha hb hL;have hra:=sa.1;have hrb:=sb.1;unfold aE3;generalize S3 a b=r at *
 cases hcm:jS a b with
 |false=>
  rw[hcm]at kc_c;obtain _|n:=n;omega
  simp-implicitDefEqProofs (maxSteps:=9^7) (disch:=try exact Dz) only[↓DN,↓kAsg,↓kRet,UP,simprocAttr,↓kc_c,↓kc_d,HW,yE,Tryz.f11]
 |true=>
  rw[hcm]at kc_c;obtain _|n:=n;omega
  simp-implicitDefEqProofs (maxSteps:=9^7) (disch:=try exact Dz) only[↓DN,↓kAsg,↓kRet,UP,simprocAttr,↓kc_c,↓kc_d,HW,yE,Tryz.f11]
theorem aBR:type_of% fun {L} a b sa sb ha hb hL=>ks fun hn=> @HE L _ hn a b sa sb ha hb hL:=fun {L} a b sa sb ha hb hL=>ks fun hn=> @HE L _ hn a b sa sb ha hb hL
end
structure FailOK(a b:Aut)(x:Int)(l:List Str)(w:Str):Prop where
 s:dJ a x=some l
 c:jS a b=true
 m:w∈l
 d:accW a w≠accW b w
theorem aTW{a b:Aut}{x:Int}(h:(qQ a b x).2=true):∃l,FailOK a b x l (qQ a b x).1:=by
 unfold qQ at h|-
 cases hs:dJ a x with
 |none=>rw[hs]at h;cases h
 |some l=>
  rw[hs]at h;simp only at h|-
  by_cases hc:jS a b=true
  ·rw[if_pos hc]at h|-;unfold aFY at h|-
   cases hk:seek (pB a b l) l.length 0 with
   |none=>rw[hk]at h;cases h
   |some q=>
    obtain⟨_,q1,q2,_⟩:=zH hk;refine⟨l,hs,hc,d5 om,?_⟩;unfold pB at q2
    simpa using q2
  ·rw[if_neg hc]at h;cases h
theorem aUJ{a b:Aut}{x:Int}{l:List Str}(hs:dJ a x=some l)(hc:jS a b=true)(h:(qQ a b x).2=false){w:Str}(hw:w∈l):accW a w=accW b w:=by
 unfold qQ at h;rw[hs]at h;simp only at h;rw[if_pos hc]at h;unfold aFY at h
 cases hk:seek (pB a b l) l.length 0 with
 |some q=>rw[hk]at h;cases h
 |none=>
  obtain⟨i,hi,rfl⟩:=Bz hw;have:=kY.1 hk i om om;unfold pB at this;rw[Aa,Ad hi]at this
  simpa using this
theorem aLb{a b:Aut}{x:Int}:nS a b x=true↔∃l,dJ a x=some l/\jS a b=true/\∀w∈l,accW a w=accW b w:=by
 unfold nS;simp only[Ar,Cx]
 constructor
 ·rintro⟨⟨h1,h2⟩,h3⟩;obtain⟨l,hl⟩:=Ef.1 h1;exact⟨l,hl,h2,fun w hw=>aUJ hl h2 h3 hw⟩
 ·rintro⟨l,hl,hc,hw⟩;refine⟨⟨by rw[hl];rfl,hc⟩,?_⟩
  cases hf:(qQ a b x).2 with
  |false=>rfl
  |true=>
   obtain⟨l2,f⟩:=aTW hf;have e:=f.s;rw[hl]at e;cases e;exact absurd (hw _ f.m) f.d
theorem L3{a:Aut}{i:Int}:∀(q j:Nat) (o:List Str) (w:Str),w∈o->w∈sepJ a i q j o
 |0,_,_,_,h=>h
 |q+1,j,o,w,h=>by
  unfold sepJ
  split
  ·exact L3 q (j+1) _ w (Ea _ h)
  ·exact L3 q (j+1) o w h
theorem aDV{a:Aut}{i:Int}:∀(q j:Nat) (o:List Str) (p:Nat),j<=p->p<j+q->(dY a i p).2=true->txt (dY a i p).1∈sepJ a i q j o
 |0,j,o,p,h1,h2,_=>by omega
 |q+1,j,o,p,h1,h2,hs=>by
  unfold sepJ
  by_cases he:p=j
  ·subst he
   by_cases hin:txt (dY a i p).1∈o
   ·rw[if_neg fun h=>h.2 hin];exact L3 _ _ _ _ hin
   ·rw[if_pos ⟨hs,hin⟩];exact L3 _ _ _ _ smp
  ·split
   ·exact aDV q (j+1) _ p om om hs
   ·exact aDV q (j+1) _ p om om hs
theorem aM6{a:Aut}:∀(q i:Nat) (o:List Str) (w:Str),w∈o->w∈sepA a q i o
 |0,_,_,_,h=>h
 |q+1,i,o,w,h=>by
  unfold sepA;exact aM6 q (i+1) _ w (L3 _ _ _ _ h)
theorem aNv{a:Aut}:∀(q i:Nat) (o:List Str) (p r:Nat),i+q=a.nx.length->i<=p->p<r->r<a.nx.length->(dY a p r).2=true->txt (dY a p r).1∈sepA a q i o
 |0,i,o,p,r,h0,h1,h2,h3,_=>by omega
 |q+1,i,o,p,r,h0,h1,h2,h3,hs=>by
  unfold sepA
  by_cases he:p=i
  ·subst he;exact aM6 _ _ _ _ (aDV _ _ _ r om om hs)
  ·exact aNv q (i+1) _ p r om om h2 h3 hs
def difW(a:Aut)(i j:Int)(w:Str):Bool:=!(acQ a (stGo a.al a.nx w i)==acQ a (stGo a.al a.nx w j))
theorem aDv{a:Aut}:∀(w:Str) (q:Int),stGo a.al a.nx w q=(w.map ltr).foldl (goS a) q
 | [],_=>rfl
 |b::w,q=>by
  show stGo a.al a.nx w (goI a.al a.nx q (ltr b))=_;rw[aDv w];rfl
theorem aTa{al:Int}{w:Str}(hw:dQ al w=true):∀l∈w.map ltr,l∈aB al:=by
 obtain⟨_,_,h⟩:=mR hw;intro l hl;obtain⟨b,hb,rfl⟩:=Av.1 hl;obtain⟨h1,h2⟩:=h b hb;exact fR.2 ⟨UU.1 h1,h2⟩
theorem aAj{a:Aut}:∀(w:List Int) (q:Int),(∀l∈w,l∈aB a.al)->stGo a.al a.nx (txt w) q=w.foldl (goS a) q
 | [],_,_=>rfl
 |l::w,q,h=>by
  have hb:=b9 l (h l Bd);show stGo a.al a.nx (txt w) (goI a.al a.nx q (ltr (bU l)))=_;rw[EW hb.1 hb.2,aAj w _ fun m hm=>h m (Az _ hm)];rfl
theorem aR6{a:Aut}(h:AOK a){i j:Nat}(hj:j<i)(hi:i<a.nx.length):(sepW a).any (difW a i j)= !decide ((bA a).getD i 0=(bA a).getD j 0):=by
 obtain⟨l,_,_,_,hc⟩:=DY h;have hiff:=hc i j hi om;rw[Bool.eq_iff_iff,List.any_eq_true];simp only[Cx,decide_eq_false_iff_not];rw[hiff]
 constructor
 ·rintro⟨w,hw,hd⟩ he;have hwi:=(aOU h).2 w hw;have:=he (w.map ltr) (aTa hwi.2);rw[<-aDv,<-aDv]at this;unfold difW at hd;rw[this]at hd;simp at hd
 ·intro hne;have hsp:=aKe h (i:=(j:Int)) (j:=(i:Int)) om om
  have hs2:(dY a j i).2=true:=by
   rcases hsp with⟨h1,_⟩|⟨_,h2⟩
   ·exact h1
   ·exfalso;apply hne;intro w hw;apply Dv;intro hn;exact h2 w ⟨hw,fun e=>hn e.symm⟩
  refine⟨txt (dY a j i).1,aNv _ 0 _ j i om om hj hi hs2,?_⟩
  rcases hsp with⟨_,⟨⟨t1,t2⟩,_⟩⟩|⟨h1,_⟩
  ·unfold difW;rw[aAj _ _ t1,aAj _ _ t1];have:acQ a ((dY a j i).1.foldl (goS a) j)≠acQ a ((dY a j i).1.foldl (goS a) i):=t2;rw[Cx,beq_eq_false_iff_ne];exact fun e=>this e.symm
  ·rw[h1]at hs2;cases hs2
section
theorem aRf{α β γ:Type}[Inhabited β]{l:List α}{f:α->β}{g:α->γ}(h:∀x∈l,∀y∈l,g x=g y->f x=f y):∃φ:γ->β,∀x∈l,φ (g x)=f x:=by
 classical
 refine⟨fun y=>if h:∃x,x∈l/\g x=y then f h.choose else default,fun x hx=> ?_⟩;have hh:∃z,z∈l/\g z=g x:=⟨x,hx,rfl⟩
 simp only[dif_pos hh];exact h _ hh.choose_spec.1 _ hx hh.choose_spec.2
section
variable{α β γ:Type}[DecidableEq β][DecidableEq γ][Inhabited β]{l:List α}{f:α->β}{g:α->γ}(h:∀x∈l,∀y∈l,g x=g y->f x=f y)
include h
theorem aFG:∃φ:γ->β,l.map f=(l.map g).map φ/\∀x∈l,φ (g x)=f x:=by
 obtain⟨φ,hφ⟩:=aRf h;refine⟨φ,?_,hφ⟩;rw[List.map_map];exact Cw fun x hx=>(hφ x hx).symm
theorem aJ1:(aO (l.map f)).length<=(aO (l.map g)).length:=by
 obtain⟨φ,e,_⟩:=aFG h;rw[e];exact xY _ φ
theorem aEY(hle:(aO (l.map g)).length<=(aO (l.map f)).length){x y:α}(hx:x∈l)(hy:y∈l)(hf:f x=f y):g x=g y:=by
 obtain⟨φ,e,hφ⟩:=aFG h;rw[e]at hle;exact aGd hle (List.mem_map_of_mem hx) (List.mem_map_of_mem hy) (by rw[hφ x hx,hφ y hy,hf])
end
theorem aER{α:Type}[DecidableEq α]{l m:List α}(h:∀x∈l,x∈m):(aO l).length<=(aO m).length:=
 tD (oZ l) fun x hx=>bR.2 (h x (bR.1 hx))
theorem aDC{ls:List Int}{l:Int}(hl:l∈ls):∀(k:Nat) (w:Str),w∈lvG ls k->bU l::w∈lvG ls (k+1)
 |0,w,h=>by
  obtain rfl:w=[]:=by simpa [lvG]using h
  exact Ck.2 ⟨[],Bf.2 rfl,Av.2 ⟨l,hl,rfl⟩⟩
 |k+1,w,h=>by
  obtain⟨v,hv,hw⟩:=Ck.1 h;obtain⟨x,hx,rfl⟩:=Av.1 hw;exact Ck.2 ⟨_,aDC hl k v hv,Av.2 ⟨x,hx,rfl⟩⟩
theorem ZQ{ls:List Int}:∀(k:Nat) (w:Str),w∈lvG ls (k+1)->∃l∈ls,∃m∈lvG ls k,w=bU l::m
 |0,w,h=>by
  obtain⟨v,hv,hw⟩:=Ck.1 h;obtain rfl:v=[]:=by simpa [lvG]using hv
  obtain⟨x,hx,rfl⟩:=Av.1 hw;exact⟨x,hx,[],Bf.2 rfl,rfl⟩
 |k+1,w,h=>by
  obtain⟨v,hv,hw⟩:=Ck.1 h;obtain⟨x,hx,rfl⟩:=Av.1 hw;obtain⟨l,hl,m,hm,rfl⟩:=ZQ k v hv;exact⟨l,hl,m++[bU x],Ck.2 ⟨m,hm,Av.2 ⟨x,hx,rfl⟩⟩,rfl⟩
theorem aMc{ls:List Int}{w:Str}{i:Nat}:∀ {j:Nat},w∈midG ls i->w∈midG ls (i+j)
 |0,h=>h
 |j+1,h=>Ak.2 (.inl (aMc h))
theorem S1{ls:List Int}{l:Int}(hl:l∈ls):∀(k:Nat) (w:Str),w∈midG ls k->bU l::w∈midG ls (k+1)
 |0,w,h=>Ak.2 (.inr (aDC hl 0 w h))
 |k+1,w,h=>(Ak.1 h).elim (fun h=>Ak.2 (.inl (S1 hl k w h))) fun h=>Ak.2 (.inr (aDC hl _ w h))
theorem aI9{ls:List Int}:∀(k:Nat) (w:Str),w∈midG ls (k+1)->w=[]\/∃l∈ls,∃m∈midG ls k,w=bU l::m
 |0,w,h=>by
  rcases Ak.1 h with h|h
  ·exact .inl (by simpa [midG]using h)
  ·exact .inr (ZQ 0 w h)
 |k+1,w,h=>by
  rcases Ak.1 h with h|h
  ·rcases aI9 k w h with h|⟨l,hl,m,hm,e⟩
   ·exact .inl h
   ·exact .inr ⟨l,hl,m,Ak.2 (.inl hm),e⟩
  ·obtain⟨l,hl,m,hm,e⟩:=ZQ (k+1) w h;exact .inr ⟨l,hl,m,Ak.2 (.inr hm),e⟩
theorem aPL{al:Int}:∀(w:List Int),Over al w->txt w∈midG (aB al) w.length
 | [],_=>RR _
 |l::w,h=>S1 (h l Bd) _ _ (aPL w fun x hx=>h x (Az _ hx))
def toW(a:Aut)(w:Str)(q:Int):Int:=stGo a.al a.nx w q
def vW(a:Aut)(w:Str)(q:Int):Bool:=acQ a (toW a w q)
theorem aHm{a:Aut}{v w:Str}{q:Int}:toW a (v++w) q=toW a w (toW a v q):=Ek
theorem CY{a:Aut}{l:Int}(hl:l∈aB a.al){w:Str}{q:Int}:toW a (bU l::w) q=toW a w (goS a q l):=by
 have hb:=b9 l hl;show stGo a.al a.nx w (goI a.al a.nx q (ltr (bU l)))=_;rw[EW hb.1 hb.2];rfl
theorem F0{a:Aut}{v w:Str}{q:Int}:vW a (v++w) q=vW a w (toW a v q):=by unfold vW;rw[aHm]
def nX(b:Aut)(W:List Str)(i:Nat)(p q:Int):Prop:=∀m∈midG (aB b.al) i,∀e∈W,vW b (m++e) p=vW b (m++e) q
def sgn(b:Aut)(W:List Str)(i:Nat)(q:Int):List Bool:=((midG (aB b.al) i).flatMap fun m=>W.map fun e=>m++e).map fun z=>vW b z q
section
variable{b:Aut}{W:List Str}
theorem MB{i:Nat}{p q:Int}:sgn b W i p=sgn b W i q↔nX b W i p q:=by
 unfold sgn nX;rw[List.map_inj_left]
 constructor
 ·intro h m hm e he;exact h _ (Ck.2 ⟨m,hm,Av.2 ⟨e,he,rfl⟩⟩)
 ·intro h z hz;obtain⟨m,hm,hz⟩:=Ck.1 hz;obtain⟨e,he,rfl⟩:=Av.1 hz;exact h m hm e he
theorem OV{i j:Nat}{p q:Int}(h:nX b W (i+j) p q):nX b W i p q:=fun m hm e he=>h m (aMc hm) e he
theorem aIw{i:Nat}{p q:Int}:nX b W (i+1) p q↔nX b W 0 p q/\∀l∈aB b.al,nX b W i (goS b p l) (goS b q l):=by
 constructor
 ·intro h;refine⟨OV (i:=0) (j:=i+1) (by rw[Ag];exact h),fun l hl m hm e he=> ?_⟩;have:=h (bU l::m) (S1 hl i m hm) e he;unfold vW at this|-;rw[Ax,CY hl,CY hl]at this;exact this
 ·rintro⟨h0,h1⟩ m hm e he
  rcases aI9 i m hm with rfl|⟨l,hl,m,hm2,rfl⟩
  ·exact h0 [] (RR 0) e he
  ·have:=h1 l hl m hm2 e he;unfold vW at this|-;rw[Ax,CY hl,CY hl];exact this
variable{S:List Int}(hS:∀q∈S,∀l∈aB b.al,goS b q l∈S)
include hS
theorem aOS{i:Nat}(h:∀p∈S,∀q∈S,nX b W i p q->nX b W (i+1) p q):∀(j:Nat) (p q:Int),p∈S->q∈S->nX b W i p q->nX b W (i+j) p q
 |0,_,_,_,_,hs=>hs
 |j+1,p,q,hp,hq,hs=>by
  obtain⟨h0,h1⟩:=aIw.1 (h p hp q hq hs);exact aIw.2 ⟨h0,fun l hl=>aOS h j _ _ (hS p hp l hl) (hS q hq l hl) (h1 l hl)⟩
omit hS
theorem aUw(h0:[]∈W){p q:Int}(h:∀i,nX b W i p q):Eqv b p q:=fun w hw=>by
 have:=h w.length (txt w) (aPL w hw) [] h0;rw[Ai]at this;unfold vW toW at this;rw[kF w _ hw,kF w _ hw]at this;exact this
theorem aUq(hW:∀e∈W,∃u,e=txt u/\Over b.al u){p q:Int}(h:Eqv b p q)(i:Nat):nX b W i p q:=fun m hm e he=>by
 obtain⟨u,rfl,hu⟩:=hW e he;obtain⟨v,rfl,hv,_⟩:=(aLc m hm).txt;have ho:Over b.al (v++u):=fun l hl=>(Ak.1 hl).elim (hv l) (hu l);have e1:txt v++txt u=txt (v++u):=by unfold txt;rw[Cm]
 have:=h (v++u) ho;unfold vW toW;rw[e1,kF _ _ ho,kF _ _ ho];exact this
end
def clsQ(a:Aut)(q:Int):Int:=(bA a).getD q.toNat 0
def numC(a:Aut):Nat:=(aO ((ordA a).map (clsQ a))).length
theorem RM{a:Aut}(h:AOK a){q:Int}(hq:q∈ordA a):0<=q/\q<a.nx.length:=by
 obtain⟨W,hB⟩:=gK h;exact hB.rng q hq
theorem aLA{a:Aut}(h:AOK a):∀q∈ordA a,∀l∈aB a.al,goS a q l∈ordA a:=by
 obtain⟨W,hB⟩:=gK h;exact fun q hq l hl=>IA hB hq hl
theorem R1{a:Aut}(h:AOK a){u:List Int}(hu:Over a.al u):toW a (txt u) 0∈ordA a:=by
 unfold toW;rw[kF u 0 hu];exact(NU h _).2 ⟨u,hu,rfl⟩
theorem aBt{a:Aut}(h:AOK a){p q:Int}(hp:0<=p/\p<a.nx.length)(hq:0<=q/\q<a.nx.length):clsQ a p=clsQ a q↔Eqv a p q:=by
 obtain⟨l,_,_,_,hc⟩:=DY h;have:=hc p.toNat q.toNat om om;rw[Bl hp.1,Bl hq.1]at this;exact this
theorem aJJ{a:Aut}(h:AOK a){q:Int}(hq:q∈ordA a):∃c∈bX a,toW a c 0=q:=by
 obtain⟨W,hB⟩:=gK h;obtain⟨e,hp⟩:=oY hq;refine⟨txt (W ((ordA a).idxOf q)),?_,?_⟩
 ·rw[y5 h hB];exact Av.2 ⟨_,Ci.2 hp,rfl⟩
 ·unfold toW;rw[kF _ _ (hB.lts _ hp),hB.run _ hp,e]
theorem JC{a:Aut}(h:AOK a){c:Str}(hc:c∈bX a):∃u,c=txt u/\Over a.al u:=by
 obtain⟨u,e,hu,_⟩:=(aM4 h c hc).txt;exact⟨u,e,hu⟩
theorem aVw{a:Aut}(h:AOK a){c:Str}(hc:c∈sepW a):∃u,c=txt u/\Over a.al u:=by
 obtain⟨u,e,hu,_⟩:=(aMV h c hc).txt;exact⟨u,e,hu⟩
theorem aWx{a:Aut}(h:AOK a){i j:Int}(hi:0<=i/\i<a.nx.length)(hj:0<=j/\j<a.nx.length)(hs:∀e∈sepW a,vW a e i=vW a e j):clsQ a i=clsQ a j:=by
 have key:∀i j:Nat,j<i->i<a.nx.length->(∀e∈sepW a,vW a e i=vW a e j)->clsQ a i=clsQ a j:=by
  intro i j hj hi hs;have hc:=aR6 h hj hi
  have hn:(sepW a).any (difW a i j)=false:=by
   rw[List.any_eq_false];intro e he;have:=hs e he;unfold vW toW at this;unfold difW;rw[this];simp
  rw[hn]at hc
  simpa [clsQ]using hc
 obtain⟨i,rfl⟩:=Dj hi.1;obtain⟨j,rfl⟩:=Dj hj.1
 rcases Dd i j with hlt|rfl|hlt
 ·exact(key j i hlt om fun e he=>(hs e he).symm).symm
 ·rfl
 ·exact key i j hlt om hs
theorem aOO{a:Aut}(h:AOK a):numC a<=(aO ((bX a).map fun c=>clsQ a (toW a c 0))).length:=by
 refine aER fun z hz=> ?_;obtain⟨q,hq,rfl⟩:=Av.1 hz;obtain⟨c,hc,rfl⟩:=aJJ h hq;exact Av.2 ⟨c,hc,rfl⟩
theorem aPJ{a b:Aut}(ha:AOK a)(hb:AOK b)(hal:a.al=b.al){α:Type}[DecidableEq α]{g:Int->α}:(aO ((bX a).map fun c=>g (toW b c 0))).length<=(aO ((ordA b).map g)).length:=by
 refine aER fun z hz=> ?_;obtain⟨c,hc,rfl⟩:=Av.1 hz;obtain⟨u,rfl,hu⟩:=JC ha hc;exact Av.2 ⟨_,R1 hb (hal▸hu),rfl⟩
theorem IY{a b:Aut}(ha:AOK a)(hb:AOK b)(hal:a.al=b.al){c:Str}(hc:c∈bX a):0<=toW b c 0/\toW b c 0<b.nx.length:=by
 obtain⟨u,rfl,hu⟩:=JC ha hc;exact RM hb (R1 hb (hal▸hu))
theorem aVR{a b:Aut}(ha:AOK a)(hb:AOK b)(hal:a.al=b.al)(hg:∀c∈bX a,∀e∈sepW a,vW a (c++e) 0=vW b (c++e) 0):numC a<=(aO ((ordA b).map (sgn b (sepW a) 0))).length:=by
 refine Bp (aOO ha) (Bp (aJ1 (g:=fun c=>sgn b (sepW a) 0 (toW b c 0)) fun x hx y hy he=> ?_) (aPJ ha hb hal));have hs:=MB.1 he;refine aWx ha (IY ha ha rfl hx) (IY ha ha rfl hy) fun e he=> ?_;have h1:=hs [] (RR 0) e he;rw[Aq,<-F0,<-F0,<-hg x hx e he,<-hg y hy e he,F0,F0]at h1;exact h1
theorem aJR{b:Aut}{W:List Str}{S:List Int}{n:Nat}(h0:n<=(aO (S.map (sgn b W 0))).length):∀i:Nat,(∃j,j<=i/\∀p∈S,∀q∈S,nX b W j p q->nX b W (j+1) p q)\/n+i<=(aO (S.map (sgn b W i))).length
 |0=>.inr h0
 |i+1=>by
  rcases aJR h0 i with⟨j,hj,h⟩|h
  ·exact .inl ⟨j,by omega,h⟩
  ·have hr:∀x∈S,∀y∈S,sgn b W (i+1) x=sgn b W (i+1) y->sgn b W i x=sgn b W i y:=fun x _ y _ he=>MB.2 (OV (MB.1 he))
   by_cases hc:(aO (S.map (sgn b W (i+1)))).length<=(aO (S.map (sgn b W i))).length
   ·exact .inl ⟨i,by omega,fun p hp q hq hs=>MB.1 (aEY hr hc hp hq (MB.2 hs))⟩
   ·exact .inr om
theorem aWo{b:Aut}(hb:AOK b){W:List Str}(hn:[]∈W)(hW:∀e∈W,∃u,e=txt u/\Over b.al u){n k:Nat}(h0:n<=(aO ((ordA b).map (sgn b W 0))).length)(hk:numC b<=n+k){p q:Int}(hp:p∈ordA b)(hq:q∈ordA b)(hs:nX b W k p q):Eqv b p q:=by
 rcases aJR h0 k with⟨j,hj,h⟩|h
 ·obtain⟨d,rfl⟩:∃d,k=j+d:=⟨k-j,by omega⟩
  refine aUw hn fun i=> ?_;have:=aOS (aLA hb) h i p q hp hq (OV hs);exact OV (i:=i) (j:=j) (by rw[De];exact this)
 ·refine(aBt hb (RM hb hp) (RM hb hq)).1 ?_;exact aEY (f:=sgn b W k) (g:=clsQ b) (l:=ordA b) (fun x hx y hy he=>MB.2 (aUq hW ((aBt hb (RM hb hx) (RM hb hy)).1 he) k)) (Bp hk h) hp hq (MB.2 hs)
theorem aTf{a:Aut}{i j k:Int}(h:Eqv a i j)(g:Eqv a j k):Eqv a i k:=fun w hw=>(h w hw).trans (g w hw)
theorem aRF{a b:Aut}{x:Int}{l:List Str}(hs:dJ a x=some l)(hc:jS a b=true)(hw:∀w∈l,accW a w=accW b w)(hN:numC b<=numC a+x.toNat){w:List Int}(ho:Over a.al w):accI a w=accI b w:=by
 obtain⟨ha,hb,hal⟩:=m6.1 hc;have hg:∀c∈bX a,∀m∈midG (aB a.al) (x.toNat+1),∀e∈sepW a,vW a (c++m++e) 0=vW b (c++m++e) 0:=fun c hc m hm e he=>hw _ ((aGY hs _).2 ⟨c,hc,m,hm,e,he,rfl⟩)
 have hg0:∀c∈bX a,∀e∈sepW a,vW a (c++e) 0=vW b (c++e) 0:=fun c hc e he=>by
  have:=hg c hc [] (RR _) e he;rw[Ai]at this;exact this
 have h0:=aVR ha hb hal hg0
 have key:∀(u:List Int),Over a.al u->∀c∈bX a,∀p q:Int,Eqv a p (toW a c 0)->Eqv b q (toW b c 0)->acQ a (u.foldl (goS a) p)=acQ b (u.foldl (goS b) q):=by
  intro u
  induction u with
  |nil=>
   intro _ c hc p q hp hq;have h1:=hp [] smp;have h2:=hq [] smp;have h3:=hg0 c hc [] (aPm a);rw[Ai]at h3;exact h1.trans (Eq.trans h3 h2.symm)
  |cons l u ih=>
   intro hu c hc p q hp hq;have hl:=hu l Bd;have hlb:l∈aB b.al:=hal▸hl;have hoc:toW a (c++[bU l]) 0=goS a (toW a c 0) l:=by rw[aHm,CY hl];rfl
   have hoc2:toW b (c++[bU l]) 0=goS b (toW b c 0) l:=by rw[aHm,CY hlb];rfl
   obtain⟨v,e1,hv⟩:=JC ha hc;have hin:goS a (toW a c 0) l∈ordA a:=aLA ha _ (by rw[e1];exact R1 ha hv) l hl;obtain⟨c',hc',e⟩:=aJJ ha hin;obtain⟨v',e2,hv'⟩:=JC ha hc';refine ih (fun y hy=>hu y (Az _ hy)) c' hc' _ _ (by rw[e];exact aF9 hp hl) ?_;refine aTf (aF9 hq hlb) ?_;refine aWo hb (aPm a) (fun e he=>hal▸aVw ha he) h0 hN (aLA hb _ (by rw[e1];exact R1 hb (hal▸hv)) l hlb) (by rw[e2];exact R1 hb (hal▸hv')) fun m hm e3 he=> ?_;have hm':m∈midG (aB a.al) x.toNat:=hal▸hm;have t1:=hg c hc (bU l::m) (S1 hl _ m hm') e3 he;have t2:=hg c' hc' m (aMc hm') e3 he;rw[show c++bU l::m++e3=(c++[bU l])++(m++e3) by simp,F0 (a:=a) (v:=c++[bU l]),F0 (a:=b) (v:=c++[bU l]),hoc,hoc2]at t1;rw[Ao,F0 (a:=a) (v:=c'),F0 (a:=b) (v:=c'),e]at t2;exact t1.symm.trans t2
 exact key w ho [] (aWj ha) 0 0 (fun _ _=>rfl) (fun _ _=>rfl)
theorem aRc{a b:Aut}(ha:AOK a)(hb:AOK b)(hal:a.al=b.al)(hs:∀w,Over a.al w->accI a w=accI b w):numC a<=numC b:=by
 refine Bp (aOO ha) (Bp (aJ1 (g:=fun c=>clsQ b (toW b c 0)) fun x hx y hy he=> ?_) (aPJ ha hb hal));obtain⟨u,e1,hu⟩:=JC ha hx;obtain⟨v,e2,hv⟩:=JC ha hy;refine(aBt ha (IY ha ha rfl hx) (IY ha ha rfl hy)).2 fun w hw=> ?_;have h1:=(aBt hb (IY ha hb hal hx) (IY ha hb hal hy)).1 he w (hal▸hw);have h2:=hs (u++w) fun l hl=>(Ak.1 hl).elim (hu l) (hw l);have h3:=hs (v++w) fun l hl=>(Ak.1 hl).elim (hv l) (hw l);unfold accI at h2 h3;rw[Ek,Ek]at h2 h3;subst e1 e2;unfold toW at h1|-;rw[kF u _ hu,kF v _ hv];rw[kF u _ (hal▸hu),kF v _ (hal▸hv)]at h1;rw[h2,h3];exact h1
theorem aBg{a:Aut}(h:AOK a):(minA a).nx.length=numC a:=by
 obtain⟨_,_,a1,_,_⟩:=aR h;rw[aV0];obtain⟨W1,hB1⟩:=gK (BT h).ok;have hz:=(BT h).zero
 have hreach:∀v,v∈ordA (quoA a)↔v∈(ordA a).map (clsQ a):=by
  intro v;rw[NU (BT h).ok,Av]
  constructor
  ·rintro⟨w,hw,rfl⟩;obtain⟨p,hp,e1,e2⟩:=aBh h w 0 om hw;rw[hz]at e2;exact⟨p,(NU h _).2 ⟨w,hw,e1⟩,e2.symm⟩
  ·rintro⟨q,hq,rfl⟩;obtain⟨w,hw,rfl⟩:=(NU h _).1 hq;obtain⟨p,hp,e1,e2⟩:=aBh h w 0 om hw;rw[hz]at e2;refine⟨w,hw,?_⟩;have e3:w.foldl (goS a) 0=(p:Int):=e1;unfold clsQ;rw[e2,e3];rfl
 have l1:=tD hB1.nod fun v hv=>bR.2 ((hreach v).1 hv);have l2:=tD (oZ ((ordA a).map (clsQ a))) fun v hv=>(hreach v).2 (bR.1 hv);unfold numC;omega
theorem aVE{a:Aut}(h:AOK a):numC (minA a)=numC a:=
 Nat.le_antisymm (aRc (aAM h) h rfl fun w hw=>aPy h hw) (aRc h (aAM h) rfl fun w hw=>(aPy h hw).symm)
end
section
variable{R:Type}{L n:Nat}
theorem aV1{cl r:List Int}{k:Nat}(h:k<r.length):keyT cl (r.drop k)=44::eG (clA cl (r.getD k 0))++keyT cl (r.drop (k+1)):=by
 rw[cC h (d:=0)];rfl
theorem aN1(a:Aut)(cl:List Int)(q:Nat):(List.range (q+1)).map (keyA a cl)=(List.range q).map (keyA a cl)++[keyA a cl q]:=by
 rw[List.range_succ,Cm];rfl
def cntG(a:Aut):Nat->List Int->Nat->Nat
 |0,_,c=>c
 |j+1,cl,c=>if(aO (sigs a cl)).length=c then c else cntG a j (numL (sigs a cl)) (aO (sigs a cl)).length
theorem aUu{a:O}{h:H}{g e k:Nat}{l:List Int}{v:Int}(hk:k<l.length):gY env.P (a::.arr (ints l) e g::h) 3 (.ptr 1 g k) (nI v)=some (a::.arr (ints (l.set k v)) e g::h):=by
 rw[mM (id:=1) rfl OS aK5 rfl (by rw[dG];exact hk),JI hk];rfl
theorem aMH{a b c:O}{h:H}{g e k:Nat}{l:List Int}{v:Int}(hk:k<l.length):gY env.P (a::b::c::.arr (ints l) e g::h) 3 (.ptr 3 g k) (nI v)=some (a::b::c::.arr (ints (l.set k v)) e g::h):=by
 rw[mM (id:=3) rfl OS aK5 rfl (by rw[dG];exact hk),JI hk];rfl
theorem YU(hn:1<=n)(hL:2^60<=L){a:Aut}(ha:AOK a){k:KE R}:∀(j i m:Nat) (c:List Int) (hi:i+j=a.nx.length) (hm:j<m) (hc:c=(cl0 a).take i++List.replicate (a.nx.length-i) 0),
  aT env (aA env L n) L 0 [] Bz0 (eY 0) (U1 (Z2 (Z1 (U16 (Z2 (U32 (U32 (U4 (U1 ([])))))))))) m (Y1 (.ptr 0 0 0::.d .nils::.sl 1 0 0 a.nx.length::Y16 (nI (a.nx.length:Int)::nI i::Y32 (Y32 (Y4 (Y1 ([]))))))) [.box [nI a.al,.d (.ivs a.nx.length (aE a.nx)),.d (.ivs a.ac.length (aD a.ac))],.arr (ints c) 1 0] k
  =k (.exit 0) (Y1 (.ptr 0 0 0::.d .nils::.sl 1 0 0 a.nx.length::Y16 (nI (a.nx.length:Int)::nI (a.nx.length:Int)::Y32 (Y32 (Y4 (Y1 ([]))))))) [.box [nI a.al,.d (.ivs a.nx.length (aE a.nx)),.d (.ivs a.ac.length (aD a.ac))],.arr (ints (cl0 a)) 1 0]:=by
 obtain⟨sa,wa,a1,a2,a3⟩:=aR ha;have hal:=sa.1;have hcl:(cl0 a).length=a.nx.length:=(TO ha).len;intro j
 induction j with
 |zero=>
  intro i m c hi hm hc;obtain _|m:=m;omega;obtain rfl:i=a.nx.length:=om;have e:c=cl0 a:=by rw[hc,Ce om,Bj];simp
  subst e
  simp-implicitDefEqProofs (maxSteps:=9^7) (disch:=try exact Dz) only[↓DN,↓kRet,UP,simprocAttr,Ah,uC,sO,Tryz.f53]
 |succ j ih=>
  intro i m c hi hm hc;obtain _|m:=m;omega;have hlt:(i:Int)<a.nx.length:=om;have hi0:(0:Int)<=i:=om;have hia:(i:Int)<a.ac.length:=om;have hlen:c.length=a.nx.length:=by rw[hc,Af,Bi,List.length_replicate];omega
  have hk:i<c.length:=om;have hik:(i:Int)<c.length:=om
  have hg:(cl0 a)[i]'om=if a.ac.getD i false=true then 1 else 0:=by
   unfold cl0;rw[Du,Aa,Ad om];rfl
  have hrep:List.replicate (a.nx.length-i) (0:Int)=0::List.replicate (a.nx.length-(i+1)) 0:=by
   rw[show a.nx.length-i=(a.nx.length-(i+1))+1 by omega,Eh]
  have htk:(cl0 a).take (i+1)=(cl0 a).take i++[(cl0 a)[i]'om]:=by
   rw[Cz,Ad om];rfl
  cases hb:a.ac.getD i false with
  |true=>
   have ih':=ih (i+1) m (c.set i 1) om om (by
    rw[htk,hg,hb,hc,hrep,Dn _ _ (by rw[Bi];omega)];rw[show i-((cl0 a).take i).length=0 by rw[Bi];omega]
    simp)
   rw[cs1 i]at ih';clear ih hc hg hrep htk
   simp-implicitDefEqProofs (maxSteps:=9^7) (disch:=try exact Dz) only[↓DN,↓kRet,UP,simprocAttr,LA,hlt,hi0,hia,hb,↓aUu,↓ih',uC,sO,Tryz.f53]
  |false=>
   have ih':=ih (i+1) m c om om (by
    rw[htk,hg,hb,hc,hrep];simp)
   rw[cs1 i]at ih';clear ih hc hg hrep htk
   simp-implicitDefEqProofs (maxSteps:=9^7) (disch:=try exact Dz) only[↓DN,↓kRet,UP,simprocAttr,LA,hlt,hi0,hia,hb,↓ih',uC,sO,Tryz.f53]
theorem YY(hn:5<=n)(hL:2^60<=L){a:Aut}{cl:List Int}(hcl:cl.length=a.nx.length)(hrng:∀q,q<a.nx.length->0<=cl.getD q 0/\cl.getD q 0<12)(hal:a.nx.length<=12){r:List Int}(hr6:r.length<=6)(hr:∀x∈r,0<=x/\x<a.nx.length){o:List (D×D)}{nl:List D}{q n20 n21 c:Int}{k:KE R}:∀(j p m:Nat) (s:Str) (hp:p+j=r.length) (hm:j<m) (hs:s.length+3*j<=1000),
  aT env (aA env L n) L 0 [] Bz0 (eY 3) (U1 (Z2 (Z1 (U1 (Z4 (U1 (Z1 (U8 (U1 (Z2 (U16 (Z2 (Z1 (U8 (U1 (Z2 (Z1 (U32 (U4 (U2 ([]))))))))))))))))))))) m (Y1 (.ptr 0 0 0::.d .nils::.sl 1 0 0 a.nx.length::Y1 (nI c::.mp 2::.sl 3 0 0 a.nx.length::nI q::Y1 (.d (.str s)::Y8 (Y1 (nI n20::nI n21::Y16 (.d (.ivs a.nx.length (aE a.nx))::nI (a.nx.length:Int)::nI q::Y8 (Y1 (.d (.ivs r.length (ints r))::nI (r.length:Int)::nI p::Y32 (Y4 (Y2 ([])))))))))))) [.box [nI a.al,.d (.ivs a.nx.length (aE a.nx)),.d (.ivs a.ac.length (aD a.ac))],.arr (ints cl) 1 0,.mp o,.arr nl 1 0] k
  =k (.exit 6) (Y1 (.ptr 0 0 0::.d .nils::.sl 1 0 0 a.nx.length::Y1 (nI c::.mp 2::.sl 3 0 0 a.nx.length::nI q::Y1 (.d (.str ((s++keyT cl (r.drop p))))::Y8 (Y1 (nI n20::nI n21::Y16 (.d (.ivs a.nx.length (aE a.nx))::nI (a.nx.length:Int)::nI q::Y8 (Y1 (.d (.ivs r.length (ints r))::nI (r.length:Int)::nI (r.length:Int)::Y32 (Y4 (Y2 ([])))))))))))) [.box [nI a.al,.d (.ivs a.nx.length (aE a.nx)),.d (.ivs a.ac.length (aD a.ac))],.arr (ints cl) 1 0,.mp o,.arr nl 1 0]:=by
 intro j
 induction j with
 |zero=>
  intro p m s hp hm hs;obtain _|m:=m;omega;obtain rfl:p=r.length:=om;have e:s++keyT cl (r.drop r.length)=s:=by rw[Bu];simp[keyT]
  rw[e]
  simp-implicitDefEqProofs (maxSteps:=9^7) (disch:=try exact Dz) only[↓DN,↓kRet,UP,simprocAttr,Ah,EV,zU,Tryz.f53]
 |succ j ih=>
  intro p m s hp hm hs;obtain _|m:=m;omega;have hk:p<r.length:=om;have hlt:(p:Int)<r.length:=om;have hp0:(0:Int)<=p:=om;obtain⟨x0,x1⟩:=hr _ (jH hk);obtain⟨c0,c1⟩:=hrng (r.getD p 0).toNat om;have x2:r.getD p 0<cl.length:=om;have kc_i:=@PQ L (cl.getD (r.getD p 0).toNat 0) c0 c1;have hil:=aLT (cl.getD (r.getD p 0).toNat 0);rw[aV1 hk];have ih':=ih (p+1) m (s++44::eG (cl.getD (r.getD p 0).toNat 0)) om om (by rw[Af,Ae];omega);rw[cs1 p]at ih';unfold clA;rw[Ao]at ih';clear ih hr hrng;generalize keyT cl (r.drop (p+1))=w at *;generalize hx:r.getD p 0=x at *;generalize hci:cl.getD x.toNat 0=ci at *;generalize eG ci=t at *;have hb1:([44]:Str).length+t.length<=bI:=by unfold bI;simp;omega
  have hb2:s.length+([44]++t:Str).length<=bI:=by unfold bI;simp;omega
  have hb3:s.length+(t.length+1)<=bI:=by unfold bI;omega
  simp-implicitDefEqProofs (maxSteps:=9^7) (disch:=try exact Dz) only[↓DN,↓kRet,UP,simprocAttr,hlt,hp0,hx,x0,hci,x1,↓kc_i,↓ih',EV,zU,Tryz.f53]
theorem aAX(hn:5<=n)(hL:2^60<=L){a:Aut}(ha:AOK a){cl:List Int}(hC:Cls a cl){n20 n21 c:Int}{k:KE R}:∀(j q m:Nat) (o:List Str) (nl:List Int) (hq:q+j=a.nx.length) (hm:j<m) (ho:o=aO ((List.range q).map (keyA a cl))) (hnl:nl=numL ((List.range q).map (keyA a cl))++List.replicate (a.nx.length-q) 0),
  aT env (aA env L n) L 0 [] Bz0 (eY 2) (U1 (Z2 (Z1 (U1 (Z2 (Z1 (U8 (U4 (Z2 (U16 (Z2 (Z1 (U32 (U16 (U2 ([])))))))))))))))) m (Y1 (.ptr 0 0 0::.d .nils::.sl 1 0 0 a.nx.length::Y1 (nI c::.mp 2::.sl 3 0 0 a.nx.length::Y8 (Y4 (nI n20::nI n21::Y16 (.d (.ivs a.nx.length (aE a.nx))::nI (a.nx.length:Int)::nI q::Y32 (Y16 (Y2 ([]))))))))) [.box [nI a.al,.d (.ivs a.nx.length (aE a.nx)),.d (.ivs a.ac.length (aD a.ac))],.arr (ints cl) 1 0,.mp (numS o),.arr (ints nl) 1 0] k
  =k (.exit 4) (Y1 (.ptr 0 0 0::.d .nils::.sl 1 0 0 a.nx.length::Y1 (nI c::.mp 2::.sl 3 0 0 a.nx.length::Y8 (Y4 (nI n20::nI n21::Y16 (.d (.ivs a.nx.length (aE a.nx))::nI (a.nx.length:Int)::nI (a.nx.length:Int)::Y32 (Y16 (Y2 ([]))))))))) [.box [nI a.al,.d (.ivs a.nx.length (aE a.nx)),.d (.ivs a.ac.length (aD a.ac))],.arr (ints cl) 1 0,.mp (numS (aO (kV a cl))),.arr (ints (numL (kV a cl))) 1 0]:=by
 obtain⟨sa,wa,a1,a2,a3⟩:=aR ha;have hal:=sa.1;intro j
 induction j with
 |zero=>
  intro q m o nl hq hm ho hnl;obtain _|m:=m;omega;obtain rfl:q=a.nx.length:=om;have e1:o=aO (kV a cl):=ho;have e2:nl=numL (kV a cl):=by rw[hnl,Bj];simp[kV]
  subst e1;subst e2
  simp-implicitDefEqProofs (maxSteps:=9^7) (disch:=try exact Dz) only[↓DN,↓kRet,UP,simprocAttr,Ah,tG,sI,Tryz.f53]
 |succ j ih=>
  intro q m o nl hq hm ho hnl;obtain _|m:=m;omega;have hlt:(q:Int)<a.nx.length:=om;have hq0:(0:Int)<=q:=om;have hql:(q:Int)<cl.length:=by rw[hC.len];omega
  obtain⟨c0,c1⟩:=hC.rng q om;have hrow:=(gL ha (i:=q) om).1;have hll:=bO a.al
  have hrr:∀x∈a.nx.getD q [],0<=x/\x<a.nx.length:=by
   intro x hx;have hm2:=DV ha (v:=(q:Int)) om om;unfold rowA at hm2;rw[Ca]at hm2;rw[<-hm2]at hx;obtain⟨l,hl,rfl⟩:=Av.1 hx;exact oA ha q l om om hl
  have hil:=aLT (cl.getD q 0);have kc_i:=@PQ L (cl.getD q 0) c0 c1;have loop_c:=fun {R:Type} {n:Nat} {o:List (D×D)} {nl:List D} {q':Int} {k:KE R} (hn:5<=n)=> @YY R L n hn hL a cl hC.len hC.rng a2 (a.nx.getD q []) om hrr o nl q' n20 n21 c k (a.nx.getD q []).length 0 L (eG (cl.getD q 0)) om om om;rw[Ba]at loop_c;have ek:eG (cl.getD q 0)++keyT cl (a.nx.getD q [])=keyA a cl q:=rfl;rw[ek]at loop_c;simp only[Ap]at loop_c;have hpk:=aN1 a cl q;have hnll:(numL ((List.range q).map (keyA a cl))).length=q:=by rw[nH,Am,Db]
  have hrep:List.replicate (a.nx.length-q) (0:Int)=0::List.replicate (a.nx.length-(q+1)) 0:=by
   rw[show a.nx.length-q=(a.nx.length-(q+1))+1 by omega,Eh]
  have hset:∀v:Int,nl.set q v=numL ((List.range q).map (keyA a cl))++v::List.replicate (a.nx.length-(q+1)) 0:=by
   intro v;rw[hnl,hrep,Dn _ _ om,hnll,Bj,Cj]
  have hnlen:nl.length=a.nx.length:=by rw[hnl,Af,hnll,List.length_replicate];omega
  have hqn:q<nl.length:=om;have hqn2:(q:Int)<nl.length:=om
  by_cases hin:keyA a cl q∈o
  ·have hadd:addG o (keyA a cl q)=o:=RV hin;have ih':=ih (q+1) m o (nl.set q (idxG o (keyA a cl q):Nat)) om om (by rw[hpk,gP,<-ho,hadd]) (by rw[hset,hpk,s9,<-ho,hadd];simp);rw[cs1 q]at ih';clear ih hset hnl ho hpk hnll hrep hrr hC ek hadd;generalize hci:cl.getD q 0=ci at *;generalize hrw:a.nx.getD q []=rw0 at *;have hrw2:rw0.length<=6:=om;generalize keyA a cl q=key at *
   simp-implicitDefEqProofs (maxSteps:=9^7) (disch:=try exact Dz) only[↓DN,↓kRet,UP,simprocAttr,LA,hlt,hq0,hci,hrw,↓kc_i,↓loop_c,aIo,hin,↓aMH,↓ih',tG,sI,Tryz.f53]
  ·have hadd:addG o (keyA a cl q)=o++[keyA a cl q]:=DF hin;have hidx2:=aEw hin;have ih':=ih (q+1) m (o++[keyA a cl q]) (nl.set q (o.length:Nat)) om om (by rw[hpk,gP,<-ho,hadd]) (by rw[hset,hpk,s9,<-ho,hadd,hidx2];simp);rw[cs1 q]at ih';clear ih hset hnl ho hpk hnll hrep hrr hC ek hadd hidx2;generalize hci:cl.getD q 0=ci at *;generalize hrw:a.nx.getD q []=rw0 at *;have hrw2:rw0.length<=6:=om;generalize keyA a cl q=key at *
   simp-implicitDefEqProofs (maxSteps:=9^7) (disch:=try exact Dz) only[↓DN,↓kRet,UP,simprocAttr,LA,hlt,hq0,hci,hrw,↓kc_i,↓loop_c,aIo,aTP,aEl,hin,↓aMH,↓ih',tG,sI,Tryz.f53]
theorem X2(hn:5<=n)(hL:2^60<=L){a:Aut}(ha:AOK a){n20 n21:Int}{k:KE R}:∀(j m:Nat) (cl:List Int) (c:Nat) (hC:Cls a cl) (h0:c=0\/c=(aO cl).length) (hj:a.nx.length<j+c) (hle:c<=a.nx.length) (hm:j<m),
  aT env (aA env L n) L 0 [] Bz0 (eY 1) (U1 (Z2 (Z1 (U1 (Z1 (U8 (U4 (U2 (Z2 (U32 (U32 (U4 (U1 ([])))))))))))))) m (Y1 (.ptr 0 0 0::.d .nils::.sl 1 0 0 a.nx.length::Y1 (nI c::Y8 (Y4 (Y2 (nI n20::nI n21::Y32 (Y32 (Y4 (Y1 ([])))))))))) [.box [nI a.al,.d (.ivs a.nx.length (aE a.nx)),.d (.ivs a.ac.length (aD a.ac))],.arr (ints cl) 1 0] k
  =k .ret (Y1 (.ptr 0 0 0::.sl 1 0 0 a.nx.length::.sl 1 0 0 a.nx.length::Y1 (nI (cntG a j cl c:Int)::Y8 (Y4 (Y2 (nI n20::nI n21::Y32 (Y32 (Y4 (Y1 ([])))))))))) [.box [nI a.al,.d (.ivs a.nx.length (aE a.nx)),.d (.ivs a.ac.length (aD a.ac))],.arr (ints (clsG a j cl c)) 1 0]:=by
 obtain⟨sa,wa,a1,a2,a3⟩:=aR ha;have hal:=sa.1;intro j
 induction j with
 |zero=>
  intro m cl c hC h0 hj hle hm;omega
 |succ j ih=>
  intro m cl c hC h0 hj hle hm;obtain _|m:=m;omega;have hcn:=aDq ha hC;obtain⟨ks1,ks2⟩:=aS8 ha hC;have loop_c:=fun {R n k} hn=> @aAX R L n hn hL a ha cl hC n20 n21 (c:Int) k a.nx.length 0 L [] (List.replicate a.nx.length 0) om om rfl (by simp[numL,aO]);rw[ks1,aUd]at loop_c;simp only[Ap]at loop_c;have hlen:=hC.len;have hl2:(aO (kV a cl)).length=(aO (sigs a cl)).length:=ks2;have hle2:=kS (sigs a cl);rw[cX]at hle2;unfold clsG cntG
  by_cases he:(aO (sigs a cl)).length=c
  ·rw[if_pos he,if_pos he];have he2:(((aO (kV a cl)).length:Nat):Int)=(c:Int):=om;clear ih hcn ks1 ks2 h0 hC;generalize numL (sigs a cl)=w at *;generalize aO (kV a cl)=fk at *
   simp-implicitDefEqProofs (maxSteps:=9^7) (disch:=try exact Dz) only[↓DN,↓kRet,UP,simprocAttr,↓tL,↓loop_c,aEl,he2,EZ,AS,Tryz.f53]
  ·rw[if_neg he,if_neg he]
   have hpos:0<(aO (sigs a cl)).length:=by
    have:(sigs a cl)[0]'(by rw[cX];omega)∈aO (sigs a cl):=bR.2 (At _);exact Em this
   have hge:c<=(aO (sigs a cl)).length:=by
    rcases h0 with h0|h0
    ·omega
    ·have:=xY (sigs a cl) (fun s=>s.headD 0);rw[PK hC]at this;omega
   have ih':=ih m (numL (sigs a cl)) (aO (sigs a cl)).length hcn (.inr (C1 (F1 (sigs a cl))).2.symm) om hle2 om;have he2:¬((((aO (kV a cl)).length:Nat):Int)=(c:Int)):=om;rw[<-ks2]at ih'|-;clear ih hcn ks1 ks2 h0 hC hpos hge;generalize clsG a j (numL (sigs a cl)) (aO (kV a cl)).length=z at *;generalize cntG a j (numL (sigs a cl)) (aO (kV a cl)).length=z2 at *;generalize numL (sigs a cl)=w at *;generalize aO (kV a cl)=fk at *
   simp-implicitDefEqProofs (maxSteps:=9^7) (disch:=try exact Dz) only[↓DN,↓kRet,UP,simprocAttr,↓tL,↓loop_c,aEl,he2,↓ih',EZ,AS,Tryz.f53]
theorem RW(hn:6<=n)(a:Aut)(ha:AOK a)(hL:2^60<=L):aA env L n 53 [.agg [nI a.al,.d (.ivs a.nx.length (aE a.nx)),.d (.ivs a.ac.length (aD a.ac))]] []=some (.d (.ivs (bA a).length (ints (bA a))),[]):=by
 obtain⟨sa,wa,a1,a2,a3⟩:=aR ha;have hal:=sa.1;have loop_a:=fun {R n k} hn=> @YU R L n hn hL a ha k a.nx.length 0 L (List.replicate a.nx.length 0) om om smp;have loop_b:=fun {R:Type} {n:Nat} {n20 n21:Int} {k:KE R} (hn:5<=n)=> @X2 R L n hn hL a ha n20 n21 k (a.nx.length+1) L (cl0 a) 0 (TO ha) (.inl rfl) om om om;have e:clsG a (a.nx.length+1) (cl0 a) 0=bA a:=rfl;rw[e]at loop_b;have hcl:=FG ha;simp only[Ap]at loop_a loop_b;have e4:(ints (bA a)).take a.nx.length=ints (bA a):=by rw[cK om]
 have e5:(ints (bA a)).length=a.nx.length:=by rw[dG,hcl]
 rw[hcl];generalize cntG a (a.nx.length+1) (cl0 a) 0=z2 at *;generalize bA a=w at *;obtain _|n:=n;omega
 simp-implicitDefEqProofs (maxSteps:=9^7) (disch:=try exact Dz) only[↓DN,↓kAsg,↓kRet,UP,simprocAttr,↓tL,↓loop_a,↓loop_b,e4,e5,Ab,aH7,W3,Tryz.f53]
theorem aHw:type_of% fun {L} a ha hL=>ks fun hn=> @RW L _ hn a ha hL:=fun {L} a ha hL=>ks fun hn=> @RW L _ hn a ha hL
end
end Ev
end Go.Proofs.YtppffbehejpglaaGreatDoor
