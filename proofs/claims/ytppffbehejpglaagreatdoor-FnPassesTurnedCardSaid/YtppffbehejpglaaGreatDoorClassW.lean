/-
  The least automaton: plain laws.
-/
import Derived.Test.YtppffbehejpglaaGreatDoorClassS
import Derived.Test.YtppffbehejpglaaGreatDoorTrimL
import Derived.Test.YtppffbehejpglaaGreatDoorFail
import Derived.Test.YtppffbehejpglaaGreatDoorSuiteS
import Derived.Test.YtppffbehejpglaaGreatDoorPathZ
set_option linter.unusedSimpArgs false
set_option linter.unusedVariables false
set_option linter.unusedSectionVars false
set_option maxRecDepth 8000
set_option maxHeartbeats 4000000
namespace Go.Proofs.YtppffbehejpglaaGreatDoor
namespace Ev
def quoG(a:Aut)(cl:List Int):Nat->Nat->List (List Int)->List Bool->List (List Int)×List Bool
 |0,_,d,b=>(d,b)
 |j+1,q,d,b=>if cl.getD q 0<d.length then quoG a cl j (q+1) d b else quoG a cl j (q+1) (d++[(a.nx.getD q []).map (clA cl)]) (b++[acQ a q])
def quoA(a:Aut):Aut:=⟨a.al,(quoG a (a8 a) a.nx.length 0 [] []).1,(quoG a (a8 a) a.nx.length 0 [] []).2⟩
def minA(a:Aut):Aut:=bA (quoA a)
structure Quo(a:Aut)(l:List (List Int))(cl:List Int)(q:Nat)(d:List (List Int))(b:List Bool):Prop where
 len:d.length=(aO (l.take q)).length
 blen:b.length=d.length
 low:∀p,p<q->0<=cl.getD p 0/\cl.getD p 0<d.length
 row:∀p,p<q->d.getD (cl.getD p 0).toNat []=(a.nx.getD p []).map (clA cl)
 acc:∀p,p<q->b.getD (cl.getD p 0).toNat false=acQ a p
 mem:∀r∈d,∃p,p<q/\r=(a.nx.getD p []).map (clA cl)
theorem aIB{α:Type}[DecidableEq α]{l:List α}{q:Nat}(hq:q<l.length):(numL l).getD q 0=((idxG (addG (aO (l.take q)) l[q]) l[q]:Nat):Int):=by
 have e:l=(l.take q++[l[q]])++l.drop (q+1):=sm
 have key:∀(u v:List α) (i:Nat),i<u.length->(numL (u++v)).getD i 0=(numL u).getD i 0:=by
  intro u v
  induction v generalizing u with
  |nil=>intro i hi;rw[Ai]
  |cons x v ih=>
   intro i hi;have:u++x::v=(u++[x])++v:=sm;rw[this,ih (u++[x]) i (by simp;omega),s6,Aa,Be (by rw[nE];exact hi),Aa]
 have h1:=key (l.take q++[l[q]]) (l.drop (q+1)) q (by simp;omega);rw[<-e]at h1;rw[h1,s6,Aa,Bo (by rw[nE,Bi];omega)];have e2:q-(numL (l.take q)).length=0:=by rw[nE,Bi];omega
 rw[e2];rfl
theorem aUi{a:Aut}{l:List (List Int)}{cl:List Int}(hcl:cl=numL l)(hl:l.length=a.nx.length)(hst:∀i j:Nat,i<a.nx.length->j<a.nx.length->cl.getD i 0=cl.getD j 0->(a.nx.getD i []).map (clA cl)=(a.nx.getD j []).map (clA cl)/\acQ a i=acQ a j){q:Nat}{d:List (List Int)}{b:List Bool}(hq:q<a.nx.length)(h:Quo a l cl q d b):
  if cl.getD q 0<d.length then Quo a l cl (q+1) d b else Quo a l cl (q+1) (d++[(a.nx.getD q []).map (clA cl)]) (b++[acQ a q]):=by
 have hv:=aIB (l:=l) (q:=q) om;rw[<-hcl]at hv;have htk:l.take (q+1)=l.take q++[l[q]'om]:=by rw[Cz,Ad om];rfl
 have hsame:∀p (hp:p<q),(cl.getD p 0=cl.getD q 0↔l[p]'om=l[q]'om):=by
  intro p hp;rw[hcl];exact aG5 om om
 by_cases hin:l[q]'om∈l.take q
 ·have hin2:=bR.2 hin;rw[SD hin2]at hv;have hlt:=aO5 hin2;have hc:cl.getD q 0<d.length:=by rw[hv,h.len];omega
  rw[if_pos hc];obtain⟨p,hp,e⟩:=Bz hin;rw[Bi]at hp;rw[List.getElem_take]at e;have hpq:p<q:=om;have ec:=(hsame p hpq).2 e;refine⟨by rw[htk,gS,SD hin2];exact h.len,h.blen,?_,?_,?_,?_⟩
  ·intro r hr
   by_cases hr2:r=q
   ·subst hr2;exact⟨by rw[hv];omega,hc⟩
   ·exact h.low r om
  ·intro r hr
   by_cases hr2:r=q
   ·subst hr2;rw[<-ec,h.row p hpq];exact(hst p r om hq ec).1
   ·exact h.row r om
  ·intro r hr
   by_cases hr2:r=q
   ·subst hr2;rw[<-ec,h.acc p hpq];exact(hst p r om hq ec).2
   ·exact h.acc r om
  ·intro r hr;obtain⟨p,hp,e⟩:=h.mem r hr;exact⟨p,by omega,e⟩
 ·have hin2:l[q]'om∉aO (l.take q):=fun hh=>hin (bR.1 hh);have hnew:=aDR hin2;rw[C8 hin2,hnew]at hv;have hv2:cl.getD q 0=d.length:=by rw[hv,h.len]
  have hc:¬cl.getD q 0<d.length:=om;rw[if_neg hc];refine⟨by rw[htk,gS,C8 hin2,Af,Af,h.len];rfl,by rw[Af,Af,h.blen];rfl,?_,?_,?_,?_⟩
  ·intro r hr;rw[Af]
   by_cases hr2:r=q
   ·subst hr2;simp only[Ae,Ac];omega
   ·have:=h.low r om;omega
  ·intro r hr
   by_cases hr2:r=q
   ·subst hr2;rw[hv2,Cb,Aa];simp
   ·have:=h.low r om;rw[Aa,Be om,<-Aa];exact h.row r om
  ·intro r hr
   by_cases hr2:r=q
   ·subst hr2;rw[hv2,Cb,<-h.blen,Aa];simp
   ·have:=h.low r om;have hb:=h.blen;rw[Aa,Be om,<-Aa];exact h.acc r om
  ·intro r hr
   rcases Ak.1 hr with hr|hr
   ·obtain⟨p,hp,e⟩:=h.mem r hr;exact⟨p,by omega,e⟩
   ·simp only[Bf]at hr;exact⟨q,by omega,hr⟩
theorem aHw{a:Aut}{l:List (List Int)}{cl:List Int}(hcl:cl=numL l)(hl:l.length=a.nx.length)(hst:∀i j:Nat,i<a.nx.length->j<a.nx.length->cl.getD i 0=cl.getD j 0->(a.nx.getD i []).map (clA cl)=(a.nx.getD j []).map (clA cl)/\acQ a i=acQ a j):∀(j q:Nat) (d:List (List Int)) (b:List Bool),q+j=a.nx.length->Quo a l cl q d b->Quo a l cl a.nx.length (quoG a cl j q d b).1 (quoG a cl j q d b).2
 |0,q,d,b,hj,h=>by
  obtain rfl:q=a.nx.length:=om;exact h
 |j+1,q,d,b,hj,h=>by
  have hs:=aUi hcl hl hst om h;unfold quoG
  by_cases hc:cl.getD q 0<d.length
  ·rw[if_pos hc]at hs|-;exact aHw hcl hl hst j (q+1) _ _ om hs
  ·rw[if_neg hc]at hs|-;exact aHw hcl hl hst j (q+1) _ _ om hs
structure QuoOK(a:Aut):Prop where
 ok:AOK (quoA a)
 zero:(a8 a).getD 0 0=0
 low:∀q:Nat,q<a.nx.length->0<=(a8 a).getD q 0/\(a8 a).getD q 0<(quoA a).nx.length
 go:∀q:Nat,q<a.nx.length->∀l∈aB a.al,goS (quoA a) ((a8 a).getD q 0) l=clA (a8 a) (goS a q l)
 acc:∀q:Nat,q<a.nx.length->acQ (quoA a) ((a8 a).getD q 0)=acQ a q
theorem QX{a:Aut}(h:AOK a):QuoOK a:=by
 obtain⟨l,e,hl,hrng,hp⟩:=DG h;obtain⟨a1,a2,a3,ha⟩:=fM h
 have hst:∀i j:Nat,i<a.nx.length->j<a.nx.length->(a8 a).getD i 0=(a8 a).getD j 0->(a.nx.getD i []).map (clA (a8 a))=(a.nx.getD j []).map (clA (a8 a))/\acQ a i=acQ a j:=by
  intro i j hi hj he;have hq:=(hp i j hi hj).1 he;refine⟨?_,hq [] sm⟩;rw[uG h hi,uG h hj];apply Cw;intro m hm;obtain⟨p,e1,hp1⟩:=uX h hi hm;obtain⟨r,e2,hr1⟩:=uX h hj hm;have:=aFc hq hm;rw[e1,e2]at this|-;exact(hp p r hp1 hr1).2 this
 have hQ:=aHw e hl hst a.nx.length 0 [] [] om ⟨by simp[aO],rfl,fun p hp=>by omega,fun p hp=>by omega,fun p hp=>by omega,fun r hr=>by cases hr⟩;have hfl:=kT (l.take a.nx.length);rw[Bi]at hfl;have hlen:=hQ.len;have hlow0:=hQ.low 0 om
 have hok:AOK (quoA a):=by
  refine aDs ha (by show 1<=(quoG a (a8 a) a.nx.length 0 [] []).1.length;omega) (by show(quoG a (a8 a) a.nx.length 0 [] []).1.length<=12;omega) hQ.blen ?_;intro r hr;obtain⟨p,hp1,rfl⟩:=hQ.mem r hr;rw[uG h hp1];refine⟨Al _,?_⟩;intro x hx;obtain⟨m,hm,rfl⟩:=Av.1 hx;obtain⟨r,e1,hr1⟩:=uX h hp1 hm;rw[e1];exact hQ.low r hr1
 refine⟨hok,?_,hQ.low,?_,hQ.acc⟩
 ·rw[e];have:=aIB (l:=l) (q:=0) om;rw[this];simp[aO,addG,idxG]
 ·intro q hq m hm;obtain⟨⟨m0,m1⟩,hb⟩:=fV.1 hm;obtain⟨p1,p2⟩:=tG m0 m1 hb;unfold goS;rw[IZ (show cN (quoA a).al m=true from hb),IZ hb];have hr:=hQ.row q hq;show((quoG a (a8 a) a.nx.length 0 [] []).1.getD ((a8 a).getD q 0).toNat []).getD (gO a.al m) 0=_;rw[hr,Cb];have hw:=(gG h (i:=q) hq).1;rw[Aa,Bh,Ad om,Aa (l:=a.nx.getD q []),Ad om];rfl
theorem aHH{a:Aut}(h:AOK a):∀(w:List Int) (q:Nat),q<a.nx.length->(∀l∈w,l∈aB a.al)->∃p:Nat,p<a.nx.length/\w.foldl (goS a) q=p/\w.foldl (goS (quoA a)) ((a8 a).getD q 0)=(a8 a).getD p 0
 | [],q,hq,_=>⟨q,hq,rfl,rfl⟩
 |l::w,q,hq,hw=>by
  have hl:=hw l Bd;obtain⟨p,e,hp⟩:=uX h hq hl;obtain⟨r,hr,e1,e2⟩:=aHH h w p hp fun x hx=>hw x (Az _ hx);refine⟨r,hr,by simp only[Dc];rw[e,e1],?_⟩;simp only[Dc];rw[(QX h).go q hq l hl,e];exact e2
def accI(a:Aut)(w:List Int):Bool:=acQ a (w.foldl (goS a) 0)
theorem aQV{a:Aut}(h:AOK a):AOK (minA a):=D3 (QX h).ok
theorem NU{a:Aut}(h:AOK a)(v:Int):v∈ordA a↔∃w:List Int,(∀l∈w,l∈aB a.al)/\w.foldl (goS a) 0=v:=by
 obtain⟨W,hB⟩:=iQ h
 constructor
 ·intro hv;obtain⟨e,hp⟩:=rJ hv;exact⟨W _,hB.lts _ hp,by rw[hB.run _ hp,e]⟩
 ·rintro⟨w,hw,rfl⟩;obtain⟨q,hq,e,_⟩:=hB.least w.length w rfl hw;rw[<-e];exact jQ hq
theorem aWm(a:Aut):(minA a).nx.length=(ordA (quoA a)).length:=Al _
section
section
variable{a:Aut}{x y:Int}
end
end
def Over(al:Int)(w:List Int):Prop:=∀l∈w,l∈aB al
theorem aNr{a:Aut}{w:List Int}(hw:Over a.al w):accW a (txt w)=accI a w:=by
 unfold accW accI acQ;rw[qD w 0 hw]
theorem NJ{a b:Aut}(h:AOK a)(hb:AOK b)(hal:a.al=b.al):∀(w:List Int) (i j u:Int),0<=i->i<a.nx.length->0<=j->j<b.nx.length->
  (Path (nxT a b) (aB a.al) (i*b.nx.length+j) w u↔Over a.al w/\u=w.foldl (goS a) i*b.nx.length+w.foldl (goS b) j)
 | [],i,j,u,_,_,_,_=>by
  simp only[Path,List.foldl_nil]
  constructor
  ·rintro rfl;exact⟨by simp[Over],rfl⟩
  ·rintro⟨_,rfl⟩;rfl
 |l::w,i,j,u,i0,i1,j0,j1=>by
  obtain⟨e1,e2⟩:=BD (n:=(b.nx.length:Int)) om i0 j0 j1;simp only[Path,nxT,e1,e2,Bf,exists_eq_left]
  constructor
  ·rintro⟨hl,hp⟩;have gi:=oW h i l i0 i1 hl;have gj:=oW hb j l j0 j1 (hal▸hl);obtain⟨h1,h2⟩:=(NJ h hb hal w (goS a i l) (goS b j l) u gi.1 gi.2 gj.1 gj.2).1 hp;exact⟨fun x hx=>(Au.1 hx).elim (fun e=>e▸hl) (h1 x),h2⟩
  ·rintro⟨hw,hu⟩;have hl:=hw l Bd;have gi:=oW h i l i0 i1 hl;have gj:=oW hb j l j0 j1 (hal▸hl);exact⟨hl,(NJ h hb hal w (goS a i l) (goS b j l) u gi.1 gi.2 gj.1 gj.2).2 ⟨fun x hx=>hw x (Az _ hx),hu⟩⟩
theorem aHV{a:Aut}(h:AOK a):∀(w:List Int) (q:Int),Over a.al w->0<=q->q<a.nx.length->0<=w.foldl (goS a) q/\w.foldl (goS a) q<a.nx.length
 | [],q,_,h0,h1=>⟨h0,h1⟩
 |l::w,q,hw,h0,h1=>by
  have hg:=oW h q l h0 h1 (hw l Bd);exact aHV h w _ (fun x hx=>hw x (Az _ hx)) hg.1 hg.2
def aLw(a b:Aut)(w:List Int):Prop:=Over a.al w/\accI a w≠accI b w
theorem aOi{a b:Aut}(h:AOK a)(hb:AOK b)(hal:a.al=b.al)(w:List Int):
  Hits (nxT a b) (aB a.al) [0*(b.nx.length:Int)+0] (glT (fun x y=>x !=y) a b) w↔aLw a b w:=by
 obtain⟨_,_,a1,_,_⟩:=aR h;obtain⟨_,_,b1,_,_⟩:=aR hb
 have key:Over a.al w->glT (fun x y=>x !=y) a b (w.foldl (goS a) 0*b.nx.length+w.foldl (goS b) 0)=(accI a w !=accI b w):=by
  intro hw;have ri:=aHV h w 0 hw om om;have rj:=aHV hb w 0 (hal▸hw) om om;obtain⟨e1,e2⟩:=BD (n:=(b.nx.length:Int)) om ri.1 rj.1 rj.2;unfold glT;rw[e1,e2];rfl
 unfold Hits r5 aLw;simp only[Bf,exists_eq_left]
 constructor
 ·rintro⟨u,hp,hg⟩;obtain⟨h1,rfl⟩:=(NJ h hb hal w 0 0 u om om om om).1 hp;rw[key h1]at hg;exact⟨h1,by simpa using hg⟩
 ·rintro⟨h1,h2⟩;exact⟨_,(NJ h hb hal w 0 0 _ om om om om).2 ⟨h1,rfl⟩,by rw[key h1];simpa using h2⟩
theorem aFx{a b:Aut}(h:AOK a)(hb:AOK b)(hal:a.al=b.al):D6 (aLw a b) (twoG (fun x y=>x !=y) a b 0 0):=by
 obtain⟨_,_,a1,_,_⟩:=aR h;obtain⟨_,_,b1,_,_⟩:=aR hb;refine SR (aOi h hb hal) ?_;refine aA8 (lG _) (fun v c h0 h1 hc m hm=> ?_) (fun n hn=> ?_) sm
 ·have:=b9 c hc;rw[Cf]at h1|-;exact R5 h hb h0 h1 ⟨this.1,by omega⟩ m hm
 ·simp only[Bf]at hn;subst hn;rw[Cf];exact DD om om
def aPI(a b:Aut):Str×Bool:=if jA a b=true then(txt (twoG (fun x y=>x !=y) a b 0 0).1,(twoG (fun x y=>x !=y) a b 0 0).2)else([],false)
def aA0(a b:Aut):Bool:=jA a b&& !(aPI a b).2
theorem TK{a b:Aut}:aA0 a b=true↔AOK a/\AOK b/\a.al=b.al/\∀w,Over a.al w->accI a w=accI b w:=by
 unfold aA0;rw[Ar,pG]
 constructor
 ·rintro⟨⟨ha,hb,hal⟩,hd⟩;refine⟨ha,hb,hal,fun w hw=> ?_⟩;unfold aPI at hd;rw[if_pos (pG.2 ⟨ha,hb,hal⟩)]at hd
  rcases aFx ha hb hal with⟨h1,_⟩|⟨_,h2⟩
  ·rw[h1]at hd;cases hd
  ·exact Dv fun hc=>h2 w ⟨hw,hc⟩
 ·rintro⟨ha,hb,hal,hs⟩;refine⟨⟨ha,hb,hal⟩,?_⟩;unfold aPI;rw[if_pos (pG.2 ⟨ha,hb,hal⟩)]
  rcases aFx ha hb hal with⟨_,h1,_⟩|⟨h1,_⟩
  ·exact absurd (hs _ h1.1) h1.2
  ·rw[h1];rfl
theorem aQa{a:Aut}{x:Int}{l:List Str}(h:cO a x=some l){w:Str}(hw:w∈l):∃u,w=txt u/\Over a.al u:=by
 obtain⟨c,hc,m,hm,e,he,rfl⟩:=(TM h w).1 hw;obtain⟨u,e1,e2,_⟩:=(aFz (mV h).1 hc hm he).txt;exact⟨u,e1,e2⟩
structure FailOK(a b:Aut)(x:Int)(l:List Str)(w:Str):Prop where
 s:cO a x=some l
 c:jA a b=true
 m:w∈l
 d:accW a w≠accW b w
theorem aUh{a b:Aut}{x:Int}(h:(qP a b x).2=true):∃l,FailOK a b x l (qP a b x).1:=by
 unfold qP at h|-
 cases hs:cO a x with
 |none=>rw[hs]at h;cases h
 |some l=>
  rw[hs]at h;simp only at h|-
  by_cases hc:jA a b=true
  ·rw[if_pos hc]at h|-;unfold aEC at h|-
   cases hk:seek (oY a b l) l.length 0 with
   |none=>rw[hk]at h;cases h
   |some q=>
    obtain⟨_,q1,q2,_⟩:=yV hk;refine⟨l,hs,hc,d6 om,?_⟩;unfold oY at q2
    simpa using q2
  ·rw[if_neg hc]at h;cases h
theorem aT1{a b:Aut}{x:Int}{l:List Str}(hs:cO a x=some l)(hc:jA a b=true)(h:(qP a b x).2=false){w:Str}(hw:w∈l):accW a w=accW b w:=by
 unfold qP at h;rw[hs]at h;simp only at h;rw[if_pos hc]at h;unfold aEC at h
 cases hk:seek (oY a b l) l.length 0 with
 |some q=>rw[hk]at h;cases h
 |none=>
  obtain⟨i,hi,rfl⟩:=Bz hw;have:=lD.1 hk i om om;unfold oY at this;rw[Aa,Ad hi]at this
  simpa using this
theorem aLc{a b:Aut}{x:Int}:j7 a b x=true↔∃l,cO a x=some l/\jA a b=true/\∀w∈l,accW a w=accW b w:=by
 unfold j7;simp only[Ar,Cx]
 constructor
 ·rintro⟨⟨h1,h2⟩,h3⟩;obtain⟨l,hl⟩:=Ef.1 h1;exact⟨l,hl,h2,fun w hw=>aT1 hl h2 h3 hw⟩
 ·rintro⟨l,hl,hc,hw⟩;refine⟨⟨by rw[hl];rfl,hc⟩,?_⟩
  cases hf:(qP a b x).2 with
  |false=>rfl
  |true=>
   obtain⟨l2,f⟩:=aUh hf;have e:=f.s;rw[hl]at e;cases e;exact absurd (hw _ f.m) f.d
theorem LU{a:Aut}{i:Int}:∀(q j:Nat) (o:List Str) (w:Str),w∈o->w∈sepJ a i q j o
 |0,_,_,_,h=>h
 |q+1,j,o,w,h=>by
  unfold sepJ
  split
  ·exact LU q (j+1) _ w (Ea _ h)
  ·exact LU q (j+1) o w h
theorem aC8{a:Aut}{i:Int}:∀(q j:Nat) (o:List Str) (p:Nat),j<=p->p<j+q->(dY a i p).2=true->txt (dY a i p).1∈sepJ a i q j o
 |0,j,o,p,h1,h2,_=>by omega
 |q+1,j,o,p,h1,h2,hs=>by
  unfold sepJ
  by_cases he:p=j
  ·subst he
   by_cases hin:txt (dY a i p).1∈o
   ·rw[if_neg fun h=>h.2 hin];exact LU _ _ _ _ hin
   ·rw[if_pos ⟨hs,hin⟩];exact LU _ _ _ _ sm
  ·split
   ·exact aC8 q (j+1) _ p om om hs
   ·exact aC8 q (j+1) _ p om om hs
theorem aNp{a:Aut}:∀(q i:Nat) (o:List Str) (w:Str),w∈o->w∈sepA a q i o
 |0,_,_,_,h=>h
 |q+1,i,o,w,h=>by
  unfold sepA;exact aNp q (i+1) _ w (LU _ _ _ _ h)
theorem aMb{a:Aut}:∀(q i:Nat) (o:List Str) (p r:Nat),i+q=a.nx.length->i<=p->p<r->r<a.nx.length->(dY a p r).2=true->txt (dY a p r).1∈sepA a q i o
 |0,i,o,p,r,h0,h1,h2,h3,_=>by omega
 |q+1,i,o,p,r,h0,h1,h2,h3,hs=>by
  unfold sepA
  by_cases he:p=i
  ·subst he;exact aNp _ _ _ _ (aC8 _ _ _ r om om hs)
  ·exact aMb q (i+1) _ p r om om h2 h3 hs
def difW(a:Aut)(i j:Int)(w:Str):Bool:=!(acQ a (stGo a.al a.nx w i)==acQ a (stGo a.al a.nx w j))
theorem aDS{a:Aut}:∀(w:Str) (q:Int),stGo a.al a.nx w q=(w.map ltr).foldl (goS a) q
 | [],_=>rfl
 |b::w,q=>by
  show stGo a.al a.nx w (goI a.al a.nx q (ltr b))=_;rw[aDS w];rfl
theorem aSR{al:Int}{w:Str}(hw:dP al w=true):∀l∈w.map ltr,l∈aB al:=by
 obtain⟨_,_,h⟩:=mY hw;intro l hl;obtain⟨b,hb,rfl⟩:=Av.1 hl;obtain⟨h1,h2⟩:=h b hb;exact fV.2 ⟨UZ.1 h1,h2⟩
theorem aAB{a:Aut}:∀(w:List Int) (q:Int),(∀l∈w,l∈aB a.al)->stGo a.al a.nx (txt w) q=w.foldl (goS a) q
 | [],_,_=>rfl
 |l::w,q,h=>by
  have hb:=b9 l (h l Bd);show stGo a.al a.nx (txt w) (goI a.al a.nx q (ltr (bT l)))=_;rw[E5 hb.1 hb.2,aAB w _ fun m hm=>h m (Az _ hm)];rfl
theorem aQ9{a:Aut}(h:AOK a){i j:Nat}(hj:j<i)(hi:i<a.nx.length):(sepW a).any (difW a i j)= !decide ((a8 a).getD i 0=(a8 a).getD j 0):=by
 obtain⟨l,_,_,_,hc⟩:=DG h;have hiff:=hc i j hi om;rw[Bool.eq_iff_iff,List.any_eq_true];simp only[Cx,decide_eq_false_iff_not];rw[hiff]
 constructor
 ·rintro⟨w,hw,hd⟩ he;have hwi:=(aPu h).2 w hw;have:=he (w.map ltr) (aSR hwi.2);rw[<-aDS,<-aDS]at this;unfold difW at hd;rw[this]at hd;simp at hd
 ·intro hne;have hsp:=aJD h (i:=(j:Int)) (j:=(i:Int)) om om
  have hs2:(dY a j i).2=true:=by
   rcases hsp with⟨h1,_⟩|⟨_,h2⟩
   ·exact h1
   ·exfalso;apply hne;intro w hw;apply Dv;intro hn;exact h2 w ⟨hw,fun e=>hn e.symm⟩
  refine⟨txt (dY a j i).1,aMb _ 0 _ j i om om hj hi hs2,?_⟩
  rcases hsp with⟨_,⟨⟨t1,t2⟩,_⟩⟩|⟨h1,_⟩
  ·unfold difW;rw[aAB _ _ t1,aAB _ _ t1];have:acQ a ((dY a j i).1.foldl (goS a) j)≠acQ a ((dY a j i).1.foldl (goS a) i):=t2;rw[Cx,beq_eq_false_iff_ne];exact fun e=>this e.symm
  ·rw[h1]at hs2;cases hs2
section
theorem aSr{α β γ:Type}[Inhabited β]{l:List α}{f:α->β}{g:α->γ}(h:∀x∈l,∀y∈l,g x=g y->f x=f y):∃φ:γ->β,∀x∈l,φ (g x)=f x:=by
 classical
 refine⟨fun y=>if h:∃x,x∈l/\g x=y then f h.choose else default,fun x hx=> ?_⟩;have hh:∃z,z∈l/\g z=g x:=⟨x,hx,rfl⟩
 simp only[dif_pos hh];exact h _ hh.choose_spec.1 _ hx hh.choose_spec.2
section
variable{α β γ:Type}[DecidableEq β][DecidableEq γ][Inhabited β]{l:List α}{f:α->β}{g:α->γ}(h:∀x∈l,∀y∈l,g x=g y->f x=f y)
include h
theorem aGY:∃φ:γ->β,l.map f=(l.map g).map φ/\∀x∈l,φ (g x)=f x:=by
 obtain⟨φ,hφ⟩:=aSr h;refine⟨φ,?_,hφ⟩;rw[List.map_map];exact Cw fun x hx=>(hφ x hx).symm
theorem aRu:(aO (l.map f)).length<=(aO (l.map g)).length:=by
 obtain⟨φ,e,_⟩:=aGY h;rw[e];exact xS _ φ
theorem aFB(hle:(aO (l.map g)).length<=(aO (l.map f)).length){x y:α}(hx:x∈l)(hy:y∈l)(hf:f x=f y):g x=g y:=by
 obtain⟨φ,e,hφ⟩:=aGY h;rw[e]at hle;exact aF1 hle (List.mem_map_of_mem hx) (List.mem_map_of_mem hy) (by rw[hφ x hx,hφ y hy,hf])
end
theorem aEv{α:Type}[DecidableEq α]{l m:List α}(h:∀x∈l,x∈m):(aO l).length<=(aO m).length:=
 tE (oB l) fun x hx=>bR.2 (h x (bR.1 hx))
theorem aDg{ls:List Int}{l:Int}(hl:l∈ls):∀(k:Nat) (w:Str),w∈lvG ls k->bT l::w∈lvG ls (k+1)
 |0,w,h=>by
  obtain rfl:w=[]:=by simpa [lvG]using h
  exact Ck.2 ⟨[],Bf.2 rfl,Av.2 ⟨l,hl,rfl⟩⟩
 |k+1,w,h=>by
  obtain⟨v,hv,hw⟩:=Ck.1 h;obtain⟨x,hx,rfl⟩:=Av.1 hw;exact Ck.2 ⟨_,aDg hl k v hv,Av.2 ⟨x,hx,rfl⟩⟩
theorem Y9{ls:List Int}:∀(k:Nat) (w:Str),w∈lvG ls (k+1)->∃l∈ls,∃m∈lvG ls k,w=bT l::m
 |0,w,h=>by
  obtain⟨v,hv,hw⟩:=Ck.1 h;obtain rfl:v=[]:=by simpa [lvG]using hv
  obtain⟨x,hx,rfl⟩:=Av.1 hw;exact⟨x,hx,[],Bf.2 rfl,rfl⟩
 |k+1,w,h=>by
  obtain⟨v,hv,hw⟩:=Ck.1 h;obtain⟨x,hx,rfl⟩:=Av.1 hw;obtain⟨l,hl,m,hm,rfl⟩:=Y9 k v hv;exact⟨l,hl,m++[bT x],Ck.2 ⟨m,hm,Av.2 ⟨x,hx,rfl⟩⟩,rfl⟩
theorem aNc{ls:List Int}{w:Str}{i:Nat}:∀ {j:Nat},w∈midG ls i->w∈midG ls (i+j)
 |0,h=>h
 |j+1,h=>Ak.2 (.inl (aNc h))
theorem UE{ls:List Int}{l:Int}(hl:l∈ls):∀(k:Nat) (w:Str),w∈midG ls k->bT l::w∈midG ls (k+1)
 |0,w,h=>Ak.2 (.inr (aDg hl 0 w h))
 |k+1,w,h=>(Ak.1 h).elim (fun h=>Ak.2 (.inl (UE hl k w h))) fun h=>Ak.2 (.inr (aDg hl _ w h))
theorem aJp{ls:List Int}:∀(k:Nat) (w:Str),w∈midG ls (k+1)->w=[]\/∃l∈ls,∃m∈midG ls k,w=bT l::m
 |0,w,h=>by
  rcases Ak.1 h with h|h
  ·exact .inl (by simpa [midG]using h)
  ·exact .inr (Y9 0 w h)
 |k+1,w,h=>by
  rcases Ak.1 h with h|h
  ·rcases aJp k w h with h|⟨l,hl,m,hm,e⟩
   ·exact .inl h
   ·exact .inr ⟨l,hl,m,Ak.2 (.inl hm),e⟩
  ·obtain⟨l,hl,m,hm,e⟩:=Y9 (k+1) w h;exact .inr ⟨l,hl,m,Ak.2 (.inr hm),e⟩
theorem aOZ{al:Int}:∀(w:List Int),Over al w->txt w∈midG (aB al) w.length
 | [],_=>Q3 _
 |l::w,h=>UE (h l Bd) _ _ (aOZ w fun x hx=>h x (Az _ hx))
def toW(a:Aut)(w:Str)(q:Int):Int:=stGo a.al a.nx w q
def vW(a:Aut)(w:Str)(q:Int):Bool:=acQ a (toW a w q)
theorem aHQ{a:Aut}{v w:Str}{q:Int}:toW a (v++w) q=toW a w (toW a v q):=List.foldl_append
theorem DM{a:Aut}{l:Int}(hl:l∈aB a.al){w:Str}{q:Int}:toW a (bT l::w) q=toW a w (goS a q l):=by
 have hb:=b9 l hl;show stGo a.al a.nx w (goI a.al a.nx q (ltr (bT l)))=_;rw[E5 hb.1 hb.2];rfl
theorem FD{a:Aut}{v w:Str}{q:Int}:vW a (v++w) q=vW a w (toW a v q):=by unfold vW;rw[aHQ]
def nU(b:Aut)(W:List Str)(i:Nat)(p q:Int):Prop:=∀m∈midG (aB b.al) i,∀e∈W,vW b (m++e) p=vW b (m++e) q
def sgn(b:Aut)(W:List Str)(i:Nat)(q:Int):List Bool:=((midG (aB b.al) i).flatMap fun m=>W.map fun e=>m++e).map fun z=>vW b z q
section
variable{b:Aut}{W:List Str}
theorem KM{i:Nat}{p q:Int}:sgn b W i p=sgn b W i q↔nU b W i p q:=by
 unfold sgn nU;rw[List.map_inj_left]
 constructor
 ·intro h m hm e he;exact h _ (Ck.2 ⟨m,hm,Av.2 ⟨e,he,rfl⟩⟩)
 ·intro h z hz;obtain⟨m,hm,hz⟩:=Ck.1 hz;obtain⟨e,he,rfl⟩:=Av.1 hz;exact h m hm e he
theorem ON{i j:Nat}{p q:Int}(h:nU b W (i+j) p q):nU b W i p q:=fun m hm e he=>h m (aNc hm) e he
theorem aIo{i:Nat}{p q:Int}:nU b W (i+1) p q↔nU b W 0 p q/\∀l∈aB b.al,nU b W i (goS b p l) (goS b q l):=by
 constructor
 ·intro h;refine⟨ON (i:=0) (j:=i+1) (by rw[Ag];exact h),fun l hl m hm e he=> ?_⟩;have:=h (bT l::m) (UE hl i m hm) e he;unfold vW at this|-;rw[Ax,DM hl,DM hl]at this;exact this
 ·rintro⟨h0,h1⟩ m hm e he
  rcases aJp i m hm with rfl|⟨l,hl,m,hm2,rfl⟩
  ·exact h0 [] (Q3 0) e he
  ·have:=h1 l hl m hm2 e he;unfold vW at this|-;rw[Ax,DM hl,DM hl];exact this
variable{S:List Int}(hS:∀q∈S,∀l∈aB b.al,goS b q l∈S)
include hS
theorem aPa{i:Nat}(h:∀p∈S,∀q∈S,nU b W i p q->nU b W (i+1) p q):∀(j:Nat) (p q:Int),p∈S->q∈S->nU b W i p q->nU b W (i+j) p q
 |0,_,_,_,_,hs=>hs
 |j+1,p,q,hp,hq,hs=>by
  obtain⟨h0,h1⟩:=aIo.1 (h p hp q hq hs);exact aIo.2 ⟨h0,fun l hl=>aPa h j _ _ (hS p hp l hl) (hS q hq l hl) (h1 l hl)⟩
omit hS
theorem aTl(h0:[]∈W){p q:Int}(h:∀i,nU b W i p q):Eqv b p q:=fun w hw=>by
 have:=h w.length (txt w) (aOZ w hw) [] h0;rw[Ai]at this;unfold vW toW at this;rw[qD w _ hw,qD w _ hw]at this;exact this
theorem aTB(hW:∀e∈W,∃u,e=txt u/\Over b.al u){p q:Int}(h:Eqv b p q)(i:Nat):nU b W i p q:=fun m hm e he=>by
 obtain⟨u,rfl,hu⟩:=hW e he;obtain⟨v,rfl,hv,_⟩:=(aNd m hm).txt;have ho:Over b.al (v++u):=fun l hl=>(Ak.1 hl).elim (hv l) (hu l);have e1:txt v++txt u=txt (v++u):=by unfold txt;rw[Cm]
 have:=h (v++u) ho;unfold vW toW;rw[e1,qD _ _ ho,qD _ _ ho];exact this
end
def clsQ(a:Aut)(q:Int):Int:=(a8 a).getD q.toNat 0
def numC(a:Aut):Nat:=(aO ((ordA a).map (clsQ a))).length
theorem Q0{a:Aut}(h:AOK a){q:Int}(hq:q∈ordA a):0<=q/\q<a.nx.length:=by
 obtain⟨W,hB⟩:=iQ h;exact hB.rng q hq
theorem aK9{a:Aut}(h:AOK a):∀q∈ordA a,∀l∈aB a.al,goS a q l∈ordA a:=by
 obtain⟨W,hB⟩:=iQ h;exact fun q hq l hl=>H6 hB hq hl
theorem QR{a:Aut}(h:AOK a){u:List Int}(hu:Over a.al u):toW a (txt u) 0∈ordA a:=by
 unfold toW;rw[qD u 0 hu];exact(NU h _).2 ⟨u,hu,rfl⟩
theorem aOS{a:Aut}(h:AOK a){p q:Int}(hp:0<=p/\p<a.nx.length)(hq:0<=q/\q<a.nx.length):clsQ a p=clsQ a q↔Eqv a p q:=by
 obtain⟨l,_,_,_,hc⟩:=DG h;have:=hc p.toNat q.toNat om om;rw[Bl hp.1,Bl hq.1]at this;exact this
theorem aJq{a:Aut}(h:AOK a){q:Int}(hq:q∈ordA a):∃c∈bX a,toW a c 0=q:=by
 obtain⟨W,hB⟩:=iQ h;obtain⟨e,hp⟩:=rJ hq;refine⟨txt (W ((ordA a).idxOf q)),?_,?_⟩
 ·rw[zM h hB];exact Av.2 ⟨_,Ci.2 hp,rfl⟩
 ·unfold toW;rw[qD _ _ (hB.lts _ hp),hB.run _ hp,e]
theorem aA1{a:Aut}(h:AOK a){c:Str}(hc:c∈bX a):∃u,c=txt u/\Over a.al u:=by
 obtain⟨u,e,hu,_⟩:=(aLl h c hc).txt;exact⟨u,e,hu⟩
theorem aVp{a:Aut}(h:AOK a){c:Str}(hc:c∈sepW a):∃u,c=txt u/\Over a.al u:=by
 obtain⟨u,e,hu,_⟩:=(aNg h c hc).txt;exact⟨u,e,hu⟩
theorem aVq{a:Aut}(h:AOK a){i j:Int}(hi:0<=i/\i<a.nx.length)(hj:0<=j/\j<a.nx.length)(hs:∀e∈sepW a,vW a e i=vW a e j):clsQ a i=clsQ a j:=by
 have key:∀i j:Nat,j<i->i<a.nx.length->(∀e∈sepW a,vW a e i=vW a e j)->clsQ a i=clsQ a j:=by
  intro i j hj hi hs;have hc:=aQ9 h hj hi
  have hn:(sepW a).any (difW a i j)=false:=by
   rw[List.any_eq_false];intro e he;have:=hs e he;unfold vW toW at this;unfold difW;rw[this];simp
  rw[hn]at hc
  simpa [clsQ]using hc
 obtain⟨i,rfl⟩:=Dj hi.1;obtain⟨j,rfl⟩:=Dj hj.1
 rcases Dd i j with hlt|rfl|hlt
 ·exact(key j i hlt om fun e he=>(hs e he).symm).symm
 ·rfl
 ·exact key i j hlt om hs
theorem aVh{a:Aut}(h:AOK a):numC a<=(aO ((bX a).map fun c=>clsQ a (toW a c 0))).length:=by
 refine aEv fun z hz=> ?_;obtain⟨q,hq,rfl⟩:=Av.1 hz;obtain⟨c,hc,rfl⟩:=aJq h hq;exact Av.2 ⟨c,hc,rfl⟩
theorem aWA{a b:Aut}(ha:AOK a)(hb:AOK b)(hal:a.al=b.al){α:Type}[DecidableEq α]{g:Int->α}:(aO ((bX a).map fun c=>g (toW b c 0))).length<=(aO ((ordA b).map g)).length:=by
 refine aEv fun z hz=> ?_;obtain⟨c,hc,rfl⟩:=Av.1 hz;obtain⟨u,rfl,hu⟩:=aA1 ha hc;exact Av.2 ⟨_,QR hb (hal▸hu),rfl⟩
theorem aPi{a b:Aut}(ha:AOK a)(hb:AOK b)(hal:a.al=b.al){c:Str}(hc:c∈bX a):0<=toW b c 0/\toW b c 0<b.nx.length:=by
 obtain⟨u,rfl,hu⟩:=aA1 ha hc;exact Q0 hb (QR hb (hal▸hu))
theorem aVw{a b:Aut}(ha:AOK a)(hb:AOK b)(hal:a.al=b.al)(hg:∀c∈bX a,∀e∈sepW a,vW a (c++e) 0=vW b (c++e) 0):numC a<=(aO ((ordA b).map (sgn b (sepW a) 0))).length:=by
 refine Bv (aVh ha) (Bv (aRu (g:=fun c=>sgn b (sepW a) 0 (toW b c 0)) fun x hx y hy he=> ?_) (aWA ha hb hal));have hs:=KM.1 he;refine aVq ha (aPi ha ha rfl hx) (aPi ha ha rfl hy) fun e he=> ?_;have h1:=hs [] (Q3 0) e he;rw[Aq,<-FD,<-FD,<-hg x hx e he,<-hg y hy e he,FD,FD]at h1;exact h1
theorem aJG{b:Aut}{W:List Str}{S:List Int}{n:Nat}(h0:n<=(aO (S.map (sgn b W 0))).length):∀i:Nat,(∃j,j<=i/\∀p∈S,∀q∈S,nU b W j p q->nU b W (j+1) p q)\/n+i<=(aO (S.map (sgn b W i))).length
 |0=>.inr h0
 |i+1=>by
  rcases aJG h0 i with⟨j,hj,h⟩|h
  ·exact .inl ⟨j,by omega,h⟩
  ·have hr:∀x∈S,∀y∈S,sgn b W (i+1) x=sgn b W (i+1) y->sgn b W i x=sgn b W i y:=fun x _ y _ he=>KM.2 (ON (KM.1 he))
   by_cases hc:(aO (S.map (sgn b W (i+1)))).length<=(aO (S.map (sgn b W i))).length
   ·exact .inl ⟨i,by omega,fun p hp q hq hs=>KM.1 (aFB hr hc hp hq (KM.2 hs))⟩
   ·exact .inr om
theorem aVE{b:Aut}(hb:AOK b){W:List Str}(hn:[]∈W)(hW:∀e∈W,∃u,e=txt u/\Over b.al u){n k:Nat}(h0:n<=(aO ((ordA b).map (sgn b W 0))).length)(hk:numC b<=n+k){p q:Int}(hp:p∈ordA b)(hq:q∈ordA b)(hs:nU b W k p q):Eqv b p q:=by
 rcases aJG h0 k with⟨j,hj,h⟩|h
 ·obtain⟨d,rfl⟩:∃d,k=j+d:=⟨k-j,by omega⟩
  refine aTl hn fun i=> ?_;have:=aPa (aK9 hb) h i p q hp hq (ON hs);exact ON (i:=i) (j:=j) (by rw[De];exact this)
 ·refine(aOS hb (Q0 hb hp) (Q0 hb hq)).1 ?_;exact aFB (f:=sgn b W k) (g:=clsQ b) (l:=ordA b) (fun x hx y hy he=>KM.2 (aTB hW ((aOS hb (Q0 hb hx) (Q0 hb hy)).1 he) k)) (Bv hk h) hp hq (KM.2 hs)
theorem aQ6{a:Aut}{i j k:Int}(h:Eqv a i j)(g:Eqv a j k):Eqv a i k:=fun w hw=>(h w hw).trans (g w hw)
theorem aSe{a b:Aut}{x:Int}{l:List Str}(hs:cO a x=some l)(hc:jA a b=true)(hw:∀w∈l,accW a w=accW b w)(hN:numC b<=numC a+x.toNat){w:List Int}(ho:Over a.al w):accI a w=accI b w:=by
 obtain⟨ha,hb,hal⟩:=pG.1 hc;have hg:∀c∈bX a,∀m∈midG (aB a.al) (x.toNat+1),∀e∈sepW a,vW a (c++m++e) 0=vW b (c++m++e) 0:=fun c hc m hm e he=>hw _ ((TM hs _).2 ⟨c,hc,m,hm,e,he,rfl⟩)
 have hg0:∀c∈bX a,∀e∈sepW a,vW a (c++e) 0=vW b (c++e) 0:=fun c hc e he=>by
  have:=hg c hc [] (Q3 _) e he;rw[Ai]at this;exact this
 have h0:=aVw ha hb hal hg0
 have key:∀(u:List Int),Over a.al u->∀c∈bX a,∀p q:Int,Eqv a p (toW a c 0)->Eqv b q (toW b c 0)->acQ a (u.foldl (goS a) p)=acQ b (u.foldl (goS b) q):=by
  intro u
  induction u with
  |nil=>
   intro _ c hc p q hp hq;have h1:=hp [] sm;have h2:=hq [] sm;have h3:=hg0 c hc [] (aPj a);rw[Ai]at h3;exact h1.trans (Eq.trans h3 h2.symm)
  |cons l u ih=>
   intro hu c hc p q hp hq;have hl:=hu l Bd;have hlb:l∈aB b.al:=hal▸hl;have hoc:toW a (c++[bT l]) 0=goS a (toW a c 0) l:=by rw[aHQ,DM hl];rfl
   have hoc2:toW b (c++[bT l]) 0=goS b (toW b c 0) l:=by rw[aHQ,DM hlb];rfl
   obtain⟨v,e1,hv⟩:=aA1 ha hc;have hin:goS a (toW a c 0) l∈ordA a:=aK9 ha _ (by rw[e1];exact QR ha hv) l hl;obtain⟨c',hc',e⟩:=aJq ha hin;obtain⟨v',e2,hv'⟩:=aA1 ha hc';refine ih (fun y hy=>hu y (Az _ hy)) c' hc' _ _ (by rw[e];exact aFc hp hl) ?_;refine aQ6 (aFc hq hlb) ?_;refine aVE hb (aPj a) (fun e he=>hal▸aVp ha he) h0 hN (aK9 hb _ (by rw[e1];exact QR hb (hal▸hv)) l hlb) (by rw[e2];exact QR hb (hal▸hv')) fun m hm e3 he=> ?_;have hm':m∈midG (aB a.al) x.toNat:=hal▸hm;have t1:=hg c hc (bT l::m) (UE hl _ m hm') e3 he;have t2:=hg c' hc' m (aNc hm') e3 he;rw[show c++bT l::m++e3=(c++[bT l])++(m++e3) by simp,FD (a:=a) (v:=c++[bT l]),FD (a:=b) (v:=c++[bT l]),hoc,hoc2]at t1;rw[Ao,FD (a:=a) (v:=c'),FD (a:=b) (v:=c'),e]at t2;exact t1.symm.trans t2
 exact key w ho [] (aWj ha) 0 0 (fun _ _=>rfl) (fun _ _=>rfl)
theorem aOW{a:Aut}(h:AOK a):(minA a).nx.length=numC a:=by
 obtain⟨_,_,a1,_,_⟩:=aR h;rw[aWm];obtain⟨W1,hB1⟩:=iQ (QX h).ok;have hz:=(QX h).zero
 have hreach:∀v,v∈ordA (quoA a)↔v∈(ordA a).map (clsQ a):=by
  intro v;rw[NU (QX h).ok,Av]
  constructor
  ·rintro⟨w,hw,rfl⟩;obtain⟨p,hp,e1,e2⟩:=aHH h w 0 om hw;rw[hz]at e2;exact⟨p,(NU h _).2 ⟨w,hw,e1⟩,e2.symm⟩
  ·rintro⟨q,hq,rfl⟩;obtain⟨w,hw,rfl⟩:=(NU h _).1 hq;obtain⟨p,hp,e1,e2⟩:=aHH h w 0 om hw;rw[hz]at e2;refine⟨w,hw,?_⟩;have e3:w.foldl (goS a) 0=(p:Int):=e1;unfold clsQ;rw[e2,e3];rfl
 have l1:=tE hB1.nod fun v hv=>bR.2 ((hreach v).1 hv);have l2:=tE (oB ((ordA a).map (clsQ a))) fun v hv=>(hreach v).2 (bR.1 hv);unfold numC;omega
end
section
variable{R:Type}{L n:Nat}
theorem aWl{cl r:List Int}{k:Nat}(h:k<r.length):keyT cl (r.drop k)=44::eH (clA cl (r.getD k 0))++keyT cl (r.drop (k+1)):=by
 rw[cC h (d:=0)];rfl
theorem aOb(a:Aut)(cl:List Int)(q:Nat):(List.range (q+1)).map (keyA a cl)=(List.range q).map (keyA a cl)++[keyA a cl q]:=by
 rw[List.range_succ,Cm];rfl
def cntG(a:Aut):Nat->List Int->Nat->Nat
 |0,_,c=>c
 |j+1,cl,c=>if(aO (sigs a cl)).length=c then c else cntG a j (numL (sigs a cl)) (aO (sigs a cl)).length
theorem aUu{a:O}{h:H}{g e k:Nat}{l:List Int}{v:Int}(hk:k<l.length):iM env.P (a::.arr (ints l) e g::h) 3 (.ptr 1 g k) (nI v)=some (a::.arr (ints (l.set k v)) e g::h):=by
 rw[m7 (id:=1) rfl NC aKL rfl (by rw[dH];exact hk),KR hk];rfl
theorem aMt{a b c:O}{h:H}{g e k:Nat}{l:List Int}{v:Int}(hk:k<l.length):iM env.P (a::b::c::.arr (ints l) e g::h) 3 (.ptr 3 g k) (nI v)=some (a::b::c::.arr (ints (l.set k v)) e g::h):=by
 rw[m7 (id:=3) rfl NC aKL rfl (by rw[dH];exact hk),KR hk];rfl
theorem XY(hn:1<=n)(hL:2^60<=L){a:Aut}(ha:AOK a){k:KE R}:∀(j i m:Nat) (c:List Int) (hi:i+j=a.nx.length) (hm:j<m) (hc:c=(cl0 a).take i++List.replicate (a.nx.length-i) 0),
  aT env (aA env L n) L 0 [] Bz0 (fA 0) (U1 (Z2 (Z1 (U16 (Z2 (U32 (U32 (U4 (U1 ([])))))))))) m (Y1 (.ptr 0 0 0::.d .nils::.sl 1 0 0 a.nx.length::Y16 (nI (a.nx.length:Int)::nI i::Y32 (Y32 (Y4 (Y1 ([]))))))) [.box [nI a.al,.d (.ivs a.nx.length (aE a.nx)),.d (.ivs a.ac.length (aD a.ac))],.arr (ints c) 1 0] k
  =k (.exit 0) (Y1 (.ptr 0 0 0::.d .nils::.sl 1 0 0 a.nx.length::Y16 (nI (a.nx.length:Int)::nI (a.nx.length:Int)::Y32 (Y32 (Y4 (Y1 ([]))))))) [.box [nI a.al,.d (.ivs a.nx.length (aE a.nx)),.d (.ivs a.ac.length (aD a.ac))],.arr (ints (cl0 a)) 1 0]:=by
 obtain⟨sa,wa,a1,a2,a3⟩:=aR ha;have hal:=sa.1;have hcl:(cl0 a).length=a.nx.length:=(UU ha).len;intro j
 induction j with
 |zero=>
  intro i m c hi hm hc;obtain _|m:=m;omega;obtain rfl:i=a.nx.length:=om;have e:c=cl0 a:=by rw[hc,Ce om,Bj];simp
  subst e
  simp-implicitDefEqProofs (maxSteps:=9^7) (disch:=try exact Dz) only[↓DN,↓kRet,UP,simprocAttr,Ah,s8,sR,Tryz.f53]
 |succ j ih=>
  intro i m c hi hm hc;obtain _|m:=m;omega;have hlt:(i:Int)<a.nx.length:=om;have hi0:(0:Int)<=i:=om;have hia:(i:Int)<a.ac.length:=om;have hlen:c.length=a.nx.length:=by rw[hc,Af,Bi,List.length_replicate];omega
  have hk:i<c.length:=om;have hik:(i:Int)<c.length:=om
  have hg:(cl0 a)[i]'om=if a.ac.getD i false=true then 1 else 0:=by
   unfold cl0;rw[Du,Aa,Ad om];rfl
  have hrep:List.replicate (a.nx.length-i) (0:Int)=0::List.replicate (a.nx.length-(i+1)) 0:=by
   rw[show a.nx.length-i=(a.nx.length-(i+1))+1 by omega,Eh]
  have htk:(cl0 a).take (i+1)=(cl0 a).take i++[(cl0 a)[i]'om]:=by
   rw[Cz,Ad om];rfl
  cases hb:a.ac.getD i false with
  |true=>
   have ih':=ih (i+1) m (c.set i 1) om om (by
    rw[htk,hg,hb,hc,hrep,Dn _ _ (by rw[Bi];omega)];rw[show i-((cl0 a).take i).length=0 by rw[Bi];omega]
    simp)
   rw[cs1 i]at ih';clear ih hc hg hrep htk
   simp-implicitDefEqProofs (maxSteps:=9^7) (disch:=try exact Dz) only[↓DN,↓kRet,UP,simprocAttr,LA,hlt,hi0,hia,hb,↓aUu,↓ih',s8,sR,Tryz.f53]
  |false=>
   have ih':=ih (i+1) m c om om (by
    rw[htk,hg,hb,hc,hrep];simp)
   rw[cs1 i]at ih';clear ih hc hg hrep htk
   simp-implicitDefEqProofs (maxSteps:=9^7) (disch:=try exact Dz) only[↓DN,↓kRet,UP,simprocAttr,LA,hlt,hi0,hia,hb,↓ih',s8,sR,Tryz.f53]
theorem Y7(hn:5<=n)(hL:2^60<=L){a:Aut}{cl:List Int}(hcl:cl.length=a.nx.length)(hrng:∀q,q<a.nx.length->0<=cl.getD q 0/\cl.getD q 0<12)(hal:a.nx.length<=12){r:List Int}(hr6:r.length<=6)(hr:∀x∈r,0<=x/\x<a.nx.length){o:List (D×D)}{nl:List D}{q n20 n21 c:Int}{k:KE R}:∀(j p m:Nat) (s:Str) (hp:p+j=r.length) (hm:j<m) (hs:s.length+3*j<=1000),
  aT env (aA env L n) L 0 [] Bz0 (fA 3) (U1 (Z2 (Z1 (U1 (Z4 (U1 (Z1 (U8 (U1 (Z2 (U16 (Z2 (Z1 (U8 (U1 (Z2 (Z1 (U32 (U4 (U2 ([]))))))))))))))))))))) m (Y1 (.ptr 0 0 0::.d .nils::.sl 1 0 0 a.nx.length::Y1 (nI c::.mp 2::.sl 3 0 0 a.nx.length::nI q::Y1 (.d (.str s)::Y8 (Y1 (nI n20::nI n21::Y16 (.d (.ivs a.nx.length (aE a.nx))::nI (a.nx.length:Int)::nI q::Y8 (Y1 (.d (.ivs r.length (ints r))::nI (r.length:Int)::nI p::Y32 (Y4 (Y2 ([])))))))))))) [.box [nI a.al,.d (.ivs a.nx.length (aE a.nx)),.d (.ivs a.ac.length (aD a.ac))],.arr (ints cl) 1 0,.mp o,.arr nl 1 0] k
  =k (.exit 6) (Y1 (.ptr 0 0 0::.d .nils::.sl 1 0 0 a.nx.length::Y1 (nI c::.mp 2::.sl 3 0 0 a.nx.length::nI q::Y1 (.d (.str ((s++keyT cl (r.drop p))))::Y8 (Y1 (nI n20::nI n21::Y16 (.d (.ivs a.nx.length (aE a.nx))::nI (a.nx.length:Int)::nI q::Y8 (Y1 (.d (.ivs r.length (ints r))::nI (r.length:Int)::nI (r.length:Int)::Y32 (Y4 (Y2 ([])))))))))))) [.box [nI a.al,.d (.ivs a.nx.length (aE a.nx)),.d (.ivs a.ac.length (aD a.ac))],.arr (ints cl) 1 0,.mp o,.arr nl 1 0]:=by
 intro j
 induction j with
 |zero=>
  intro p m s hp hm hs;obtain _|m:=m;omega;obtain rfl:p=r.length:=om;have e:s++keyT cl (r.drop r.length)=s:=by rw[Bt];simp[keyT]
  rw[e]
  simp-implicitDefEqProofs (maxSteps:=9^7) (disch:=try exact Dz) only[↓DN,↓kRet,UP,simprocAttr,Ah,FW,BY,Tryz.f53]
 |succ j ih=>
  intro p m s hp hm hs;obtain _|m:=m;omega;have hk:p<r.length:=om;have hlt:(p:Int)<r.length:=om;have hp0:(0:Int)<=p:=om;obtain⟨x0,x1⟩:=hr _ (jQ hk);obtain⟨c0,c1⟩:=hrng (r.getD p 0).toNat om;have x2:r.getD p 0<cl.length:=om;have kc_i:=@NM L (cl.getD (r.getD p 0).toNat 0) c0 c1;have hil:=aMu (cl.getD (r.getD p 0).toNat 0);rw[aWl hk];have ih':=ih (p+1) m (s++44::eH (cl.getD (r.getD p 0).toNat 0)) om om (by rw[Af,Ae];omega);rw[cs1 p]at ih';unfold clA;rw[Ao]at ih';clear ih hr hrng;generalize keyT cl (r.drop (p+1))=w at *;generalize hx:r.getD p 0=x at *;generalize hci:cl.getD x.toNat 0=ci at *;generalize eH ci=t at *;have hb1:([44]:Str).length+t.length<=bI:=by unfold bI;simp;omega
  have hb2:s.length+([44]++t:Str).length<=bI:=by unfold bI;simp;omega
  have hb3:s.length+(t.length+1)<=bI:=by unfold bI;omega
  simp-implicitDefEqProofs (maxSteps:=9^7) (disch:=try exact Dz) only[↓DN,↓kRet,UP,simprocAttr,hlt,hp0,hx,x0,hci,x1,↓kc_i,↓ih',FW,BY,Tryz.f53]
theorem aAg(hn:5<=n)(hL:2^60<=L){a:Aut}(ha:AOK a){cl:List Int}(hC:Cls a cl){n20 n21 c:Int}{k:KE R}:∀(j q m:Nat) (o:List Str) (nl:List Int) (hq:q+j=a.nx.length) (hm:j<m) (ho:o=aO ((List.range q).map (keyA a cl))) (hnl:nl=numL ((List.range q).map (keyA a cl))++List.replicate (a.nx.length-q) 0),
  aT env (aA env L n) L 0 [] Bz0 (fA 2) (U1 (Z2 (Z1 (U1 (Z2 (Z1 (U8 (U4 (Z2 (U16 (Z2 (Z1 (U32 (U16 (U2 ([])))))))))))))))) m (Y1 (.ptr 0 0 0::.d .nils::.sl 1 0 0 a.nx.length::Y1 (nI c::.mp 2::.sl 3 0 0 a.nx.length::Y8 (Y4 (nI n20::nI n21::Y16 (.d (.ivs a.nx.length (aE a.nx))::nI (a.nx.length:Int)::nI q::Y32 (Y16 (Y2 ([]))))))))) [.box [nI a.al,.d (.ivs a.nx.length (aE a.nx)),.d (.ivs a.ac.length (aD a.ac))],.arr (ints cl) 1 0,.mp (numS o),.arr (ints nl) 1 0] k
  =k (.exit 4) (Y1 (.ptr 0 0 0::.d .nils::.sl 1 0 0 a.nx.length::Y1 (nI c::.mp 2::.sl 3 0 0 a.nx.length::Y8 (Y4 (nI n20::nI n21::Y16 (.d (.ivs a.nx.length (aE a.nx))::nI (a.nx.length:Int)::nI (a.nx.length:Int)::Y32 (Y16 (Y2 ([]))))))))) [.box [nI a.al,.d (.ivs a.nx.length (aE a.nx)),.d (.ivs a.ac.length (aD a.ac))],.arr (ints cl) 1 0,.mp (numS (aO (kU a cl))),.arr (ints (numL (kU a cl))) 1 0]:=by
 obtain⟨sa,wa,a1,a2,a3⟩:=aR ha;have hal:=sa.1;intro j
 induction j with
 |zero=>
  intro q m o nl hq hm ho hnl;obtain _|m:=m;omega;obtain rfl:q=a.nx.length:=om;have e1:o=aO (kU a cl):=ho;have e2:nl=numL (kU a cl):=by rw[hnl,Bj];simp[kU]
  subst e1;subst e2
  simp-implicitDefEqProofs (maxSteps:=9^7) (disch:=try exact Dz) only[↓DN,↓kRet,UP,simprocAttr,Ah,tX,sS,Tryz.f53]
 |succ j ih=>
  intro q m o nl hq hm ho hnl;obtain _|m:=m;omega;have hlt:(q:Int)<a.nx.length:=om;have hq0:(0:Int)<=q:=om;have hql:(q:Int)<cl.length:=by rw[hC.len];omega
  obtain⟨c0,c1⟩:=hC.rng q om;have hrow:=(gG ha (i:=q) om).1;have hll:=bO a.al
  have hrr:∀x∈a.nx.getD q [],0<=x/\x<a.nx.length:=by
   intro x hx;have hm2:=CU ha (v:=(q:Int)) om om;unfold rowA at hm2;rw[Cb]at hm2;rw[<-hm2]at hx;obtain⟨l,hl,rfl⟩:=Av.1 hx;exact oW ha q l om om hl
  have hil:=aMu (cl.getD q 0);have kc_i:=@NM L (cl.getD q 0) c0 c1;have loop_c:=fun {R:Type} {n:Nat} {o:List (D×D)} {nl:List D} {q':Int} {k:KE R} (hn:5<=n)=> @Y7 R L n hn hL a cl hC.len hC.rng a2 (a.nx.getD q []) om hrr o nl q' n20 n21 c k (a.nx.getD q []).length 0 L (eH (cl.getD q 0)) om om om;rw[Ba]at loop_c;have ek:eH (cl.getD q 0)++keyT cl (a.nx.getD q [])=keyA a cl q:=rfl;rw[ek]at loop_c;simp only[Ap]at loop_c;have hpk:=aOb a cl q;have hnll:(numL ((List.range q).map (keyA a cl))).length=q:=by rw[nE,Al,Db]
  have hrep:List.replicate (a.nx.length-q) (0:Int)=0::List.replicate (a.nx.length-(q+1)) 0:=by
   rw[show a.nx.length-q=(a.nx.length-(q+1))+1 by omega,Eh]
  have hset:∀v:Int,nl.set q v=numL ((List.range q).map (keyA a cl))++v::List.replicate (a.nx.length-(q+1)) 0:=by
   intro v;rw[hnl,hrep,Dn _ _ om,hnll,Bj,Cj]
  have hnlen:nl.length=a.nx.length:=by rw[hnl,Af,hnll,List.length_replicate];omega
  have hqn:q<nl.length:=om;have hqn2:(q:Int)<nl.length:=om
  by_cases hin:keyA a cl q∈o
  ·have hadd:addG o (keyA a cl q)=o:=SD hin;have ih':=ih (q+1) m o (nl.set q (idxG o (keyA a cl q):Nat)) om om (by rw[hpk,gS,<-ho,hadd]) (by rw[hset,hpk,s6,<-ho,hadd];simp);rw[cs1 q]at ih';clear ih hset hnl ho hpk hnll hrep hrr hC ek hadd;generalize hci:cl.getD q 0=ci at *;generalize hrw:a.nx.getD q []=rw0 at *;have hrw2:rw0.length<=6:=om;generalize keyA a cl q=key at *
   simp-implicitDefEqProofs (maxSteps:=9^7) (disch:=try exact Dz) only[↓DN,↓kRet,UP,simprocAttr,LA,hlt,hq0,hci,hrw,↓kc_i,↓loop_c,aI2,hin,↓aMt,↓ih',tX,sS,Tryz.f53]
  ·have hadd:addG o (keyA a cl q)=o++[keyA a cl q]:=C8 hin;have hidx2:=aDR hin;have ih':=ih (q+1) m (o++[keyA a cl q]) (nl.set q (o.length:Nat)) om om (by rw[hpk,gS,<-ho,hadd]) (by rw[hset,hpk,s6,<-ho,hadd,hidx2];simp);rw[cs1 q]at ih';clear ih hset hnl ho hpk hnll hrep hrr hC ek hadd hidx2;generalize hci:cl.getD q 0=ci at *;generalize hrw:a.nx.getD q []=rw0 at *;have hrw2:rw0.length<=6:=om;generalize keyA a cl q=key at *
   simp-implicitDefEqProofs (maxSteps:=9^7) (disch:=try exact Dz) only[↓DN,↓kRet,UP,simprocAttr,LA,hlt,hq0,hci,hrw,↓kc_i,↓loop_c,aI2,aTH,aDY,hin,↓aMt,↓ih',tX,sS,Tryz.f53]
theorem XL(hn:5<=n)(hL:2^60<=L){a:Aut}(ha:AOK a){n20 n21:Int}{k:KE R}:∀(j m:Nat) (cl:List Int) (c:Nat) (hC:Cls a cl) (h0:c=0\/c=(aO cl).length) (hj:a.nx.length<j+c) (hle:c<=a.nx.length) (hm:j<m),
  aT env (aA env L n) L 0 [] Bz0 (fA 1) (U1 (Z2 (Z1 (U1 (Z1 (U8 (U4 (U2 (Z2 (U32 (U32 (U4 (U1 ([])))))))))))))) m (Y1 (.ptr 0 0 0::.d .nils::.sl 1 0 0 a.nx.length::Y1 (nI c::Y8 (Y4 (Y2 (nI n20::nI n21::Y32 (Y32 (Y4 (Y1 ([])))))))))) [.box [nI a.al,.d (.ivs a.nx.length (aE a.nx)),.d (.ivs a.ac.length (aD a.ac))],.arr (ints cl) 1 0] k
  =k .ret (Y1 (.ptr 0 0 0::.sl 1 0 0 a.nx.length::.sl 1 0 0 a.nx.length::Y1 (nI (cntG a j cl c:Int)::Y8 (Y4 (Y2 (nI n20::nI n21::Y32 (Y32 (Y4 (Y1 ([])))))))))) [.box [nI a.al,.d (.ivs a.nx.length (aE a.nx)),.d (.ivs a.ac.length (aD a.ac))],.arr (ints (clsG a j cl c)) 1 0]:=by
 obtain⟨sa,wa,a1,a2,a3⟩:=aR ha;have hal:=sa.1;intro j
 induction j with
 |zero=>
  intro m cl c hC h0 hj hle hm;omega
 |succ j ih=>
  intro m cl c hC h0 hj hle hm;obtain _|m:=m;omega;have hcn:=aDD ha hC;obtain⟨ks1,ks2⟩:=aRR ha hC;have loop_c:=fun {R n k} hn=> @aAg R L n hn hL a ha cl hC n20 n21 (c:Int) k a.nx.length 0 L [] (List.replicate a.nx.length 0) om om rfl (by simp[numL,aO]);rw[ks1,aUo]at loop_c;simp only[Ap]at loop_c;have hlen:=hC.len;have hl2:(aO (kU a cl)).length=(aO (sigs a cl)).length:=ks2;have hle2:=kT (sigs a cl);rw[cX]at hle2;unfold clsG cntG
  by_cases he:(aO (sigs a cl)).length=c
  ·rw[if_pos he,if_pos he];have he2:(((aO (kU a cl)).length:Nat):Int)=(c:Int):=om;clear ih hcn ks1 ks2 h0 hC;generalize numL (sigs a cl)=w at *;generalize aO (kU a cl)=fk at *
   simp-implicitDefEqProofs (maxSteps:=9^7) (disch:=try exact Dz) only[↓DN,↓kRet,UP,simprocAttr,↓tV,↓loop_c,aDY,he2,FS,A1,Tryz.f53]
  ·rw[if_neg he,if_neg he]
   have hpos:0<(aO (sigs a cl)).length:=by
    have:(sigs a cl)[0]'(by rw[cX];omega)∈aO (sigs a cl):=bR.2 (At _);exact El this
   have hge:c<=(aO (sigs a cl)).length:=by
    rcases h0 with h0|h0
    ·omega
    ·have:=xS (sigs a cl) (fun s=>s.headD 0);rw[OO hC]at this;omega
   have ih':=ih m (numL (sigs a cl)) (aO (sigs a cl)).length hcn (.inr (DC (EX (sigs a cl))).2.symm) om hle2 om;have he2:¬((((aO (kU a cl)).length:Nat):Int)=(c:Int)):=om;rw[<-ks2]at ih'|-;clear ih hcn ks1 ks2 h0 hC hpos hge;generalize clsG a j (numL (sigs a cl)) (aO (kU a cl)).length=z at *;generalize cntG a j (numL (sigs a cl)) (aO (kU a cl)).length=z2 at *;generalize numL (sigs a cl)=w at *;generalize aO (kU a cl)=fk at *
   simp-implicitDefEqProofs (maxSteps:=9^7) (disch:=try exact Dz) only[↓DN,↓kRet,UP,simprocAttr,↓tV,↓loop_c,aDY,he2,↓ih',FS,A1,Tryz.f53]
theorem QS(hn:6<=n)(a:Aut)(ha:AOK a)(hL:2^60<=L):aA env L n 53 [.agg [nI a.al,.d (.ivs a.nx.length (aE a.nx)),.d (.ivs a.ac.length (aD a.ac))]] []=some (.d (.ivs (a8 a).length (ints (a8 a))),[]):=by
 obtain⟨sa,wa,a1,a2,a3⟩:=aR ha;have hal:=sa.1;have loop_a:=fun {R n k} hn=> @XY R L n hn hL a ha k a.nx.length 0 L (List.replicate a.nx.length 0) om om sm;have loop_b:=fun {R:Type} {n:Nat} {n20 n21:Int} {k:KE R} (hn:5<=n)=> @XL R L n hn hL a ha n20 n21 k (a.nx.length+1) L (cl0 a) 0 (UU ha) (.inl rfl) om om om;have e:clsG a (a.nx.length+1) (cl0 a) 0=a8 a:=rfl;rw[e]at loop_b;have hcl:=E9 ha;simp only[Ap]at loop_a loop_b;have e4:(ints (a8 a)).take a.nx.length=ints (a8 a):=by rw[cK om]
 have e5:(ints (a8 a)).length=a.nx.length:=by rw[dH,hcl]
 rw[hcl];generalize cntG a (a.nx.length+1) (cl0 a) 0=z2 at *;generalize a8 a=w at *;obtain _|n:=n;omega
 simp-implicitDefEqProofs (maxSteps:=9^7) (disch:=try exact Dz) only[↓DN,↓kAsg,↓kRet,UP,simprocAttr,↓tV,↓loop_a,↓loop_b,e4,e5,Ab,aHf,VP,Tryz.f53]
theorem aHd:type_of% fun {L} a ha hL=>ks fun hn=> @QS L _ hn a ha hL:=fun {L} a ha hL=>ks fun hn=> @QS L _ hn a ha hL
end
end Ev
end Go.Proofs.YtppffbehejpglaaGreatDoor
