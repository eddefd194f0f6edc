/-
  A search that first measures how far each node is from a goal finds the first word too: plain laws.
-/
import Derived.Test.YtppffbehejpglaaGreatDoorLeast
import Derived.Test.YtppffbehejpglaaGreatDoorAutG
import Derived.Test.YtppffbehejpglaaGreatDoorAutM
set_option linter.unusedSimpArgs false
set_option linter.unusedVariables false
set_option linter.unusedSectionVars false
set_option maxRecDepth 8000
set_option maxHeartbeats 4000000
namespace Go.Proofs.YtppffbehejpglaaGreatDoor
namespace Ev
section
def OP(mvs:List (List Int))(dist:List Int)(d:Int):Bool:=mvs.any fun r=>r.any fun m=>decide (dist.getD m.toNat 0=d)
def dH(tab:List (List (List Int)))(d:Int):Nat->Nat->List Int×Bool->List Int×Bool
 |0,_,q=>q
 |j+1,i,q=>if q.1.getD i 0<0/\OP (tab.getD i []) q.1 (d-1)=true then dH tab d j (i+1) (q.1.set i d,true)else dH tab d j (i+1) q
def dC(tab:List (List (List Int))):Nat->Int->List Int->List Int
 |0,_,dist=>dist
 |j+1,d,dist=>if(dH tab d dist.length 0 (dist,false)).2=true then dC tab j (d+1) (dH tab d dist.length 0 (dist,false)).1 else(dH tab d dist.length 0 (dist,false)).1
def addC(dist:List Int)(d:Int):List Int->List Int->List Int
 | [],out=>out
 |m::ms,out=>if dist.getD m.toNat 0=d/\m∉out then addC dist d ms (out++[m])else addC dist d ms out
def bL(tab:List (List (List Int)))(dist:List Int)(k:Nat)(d:Int):List Int->List Int->List Int
 | [],out=>out
 |v::vs,out=>bL tab dist k d vs (addC dist d ((tab.getD v.toNat []).getD k []) out)
def S6(tab:List (List (List Int)))(dist:List Int)(at_:List Int)(d:Int):Nat->Nat->Nat×List Int
 |0,k=>(k,[])
 |j+1,k=>if bL tab dist k d at_ []=[]then S6 tab dist at_ d j (k+1)else(k,bL tab dist k d at_ [])
def oM(tab:List (List (List Int)))(dist:List Int)(ls:List Int):Nat->List Int->List Int
 |0,_=>[]
 |d+1,at_=>ls.getD (S6 tab dist at_ d (ls.length+1) 0).1 0::oM tab dist ls d (S6 tab dist at_ d (ls.length+1) 0).2
def aGI(tab:List (List (List Int)))(ls:List Int)(dist:List Int)(s:Int):List Int×Bool:=
 if dist.getD s.toNat 0<0 then([],false)else(oM tab dist ls (dist.getD s.toNat 0).toNat [s],true)
section
variable{nx:Int->Int->List Int}{gl:Int->Bool}{ls:List Int}{aN:Nat}{tab:List (List (List Int))}
def Away(nx:Int->Int->List Int)(ls:List Int)(gl:Int->Bool)(v:Int)(d:Nat):Prop:=∃w g,w.length=d/\Path nx ls v w g/\gl g=true
def Far(nx:Int->Int->List Int)(ls:List Int)(gl:Int->Bool)(v:Int)(d:Nat):Prop:=Away nx ls gl v d/\∀e,e<d->¬Away nx ls gl v e
theorem aAU{v:Int}:Away nx ls gl v 0↔gl v=true:=by
 constructor
 ·rintro⟨w,g,h1,h2,h3⟩;have:w=[]:=Bw.1 h1;subst this;rw[show v=g from h2];exact h3
 ·intro h;exact⟨[],v,rfl,rfl,h⟩
theorem O9{v:Int}{d:Nat}:Away nx ls gl v (d+1)↔∃l∈ls,∃m∈nx v l,Away nx ls gl m d:=by
 constructor
 ·rintro⟨w,g,h1,h2,h3⟩
  cases w with
  |nil=>simp at h1
  |cons l w=>
   obtain⟨hl,m,hm,hp⟩:=h2;exact⟨l,hl,m,hm,w,g,by simpa using h1,hp,h3⟩
 ·rintro⟨l,hl,m,hm,w,g,h1,h2,h3⟩;exact⟨l::w,g,by simp[h1],⟨hl,m,hm,h2⟩,h3⟩
theorem IK{v:Int}{d e:Nat}(h:Far nx ls gl v d)(k:Far nx ls gl v e):d=e:=by
 rcases Dd d e with h1|h1|h1
 ·exact(k.2 d h1 h.1).elim
 ·exact h1
 ·exact(h.2 e h1 k.1).elim
theorem aUG{v:Int}:∀ {d:Nat},Away nx ls gl v d->∃e,e<=d/\Far nx ls gl v e:=by
 intro d
 induction d using Nat.strongRecOn with
 |_ d ih=>
  intro h
  by_cases hd:∃e,e<d/\Away nx ls gl v e
  ·obtain⟨e,h1,h2⟩:=hd;obtain⟨f,h3,h4⟩:=ih e h1 h2;exact⟨f,by omega,h4⟩
  ·exact⟨d,Ab _,h,fun e he ha=>hd ⟨e,he,ha⟩⟩
theorem TF{v:Int}{d:Nat}(h:Far nx ls gl v (d+1)):∃l∈ls,∃m∈nx v l,Far nx ls gl m d:=by
 obtain⟨l,hl,m,hm,ha⟩:=O9.1 h.1;refine⟨l,hl,m,hm,ha,fun e he h2=> ?_⟩;exact h.2 (e+1) om (O9.2 ⟨l,hl,m,hm,h2⟩)
structure Tab(nx:Int->Int->List Int)(ls:List Int)(aN:Nat)(tab:List (List (List Int))):Prop where
 len:tab.length=aN
 row:∀v:Nat,v<aN->tab.getD v []=ls.map (nx v)
 rng:∀v c:Int,0<=v->v<aN->c∈ls->∀m∈nx v c,0<=m/\m<aN
def aFk(nx:Int->Int->List Int)(ls:List Int)(gl:Int->Bool)(aN:Nat)(dist:List Int)(d:Nat):Prop:=
 dist.length=aN/\∀i:Nat,i<aN->(∃k:Nat,k<=d/\dist.getD i 0=k/\Far nx ls gl i k)\/(dist.getD i 0= -1/\∀e,e<=d->¬Away nx ls gl i e)
theorem XV{dist:List Int}{d:Nat}(h:aFk nx ls gl aN dist d){v:Int}{k:Nat}(h0:0<=v)(h1:v<aN)(hk:k<=d):dist.getD v.toNat 0=k↔Far nx ls gl v k:=by
 have hv:((v.toNat:Nat):Int)=v:=om
 rcases h.2 v.toNat om with⟨e,h2,h3,h4⟩|⟨h3,h4⟩
 ·rw[hv]at h4
  constructor
  ·intro h5;have:e=k:=om;rw[<-this];exact h4
  ·intro h5;rw[h3,IK h4 h5]
 ·rw[hv]at h4
  constructor
  ·intro h5;omega
  ·intro h5;exact(h4 k hk h5.1).elim
theorem aTZ(ht:Tab nx ls aN tab){dist old:List Int}{d:Nat}(hk:aFk nx ls gl aN old d){v:Nat}(hv:v<aN)(hs:∀i:Nat,i<aN->(dist.getD i 0=d↔old.getD i 0=d)):
  OP (tab.getD v []) dist d=true↔∃l∈ls,∃m∈nx v l,Far nx ls gl m d:=by
 unfold OP;rw[ht.row v hv];simp only[List.any_map,List.any_eq_true,Function.comp,decide_eq_true_eq]
 constructor
 ·rintro⟨l,hl,m,hm,h⟩;have hr:=ht.rng v l om om hl m hm;rw[hs m.toNat om]at h;exact⟨l,hl,m,hm,(XV hk hr.1 hr.2 (Ab _)).1 h⟩
 ·rintro⟨l,hl,m,hm,h⟩;have hr:=ht.rng v l om om hl m hm;refine⟨l,hl,m,hm,?_⟩;rw[hs m.toNat om];exact(XV hk hr.1 hr.2 (Ab _)).2 h
theorem aIx{α:Type}{l:List α}{i j:Nat}{x d:α}(h:i<l.length):(l.set i x).getD j d=if i=j then x else l.getD j d:=by
 rw[Aa,Cp,Aa]
 by_cases hij:i=j
 ·subst hij;simp[h]
 ·simp[hij]
open Classical in
theorem aXj(ht:Tab nx ls aN tab){old:List Int}{d:Nat}(hk:aFk nx ls gl aN old d):∀(j i:Nat) (q:List Int×Bool),i+j=aN->q.1.length=aN->(∀x:Nat,x<aN->q.1.getD x 0=if x<i/\Far nx ls gl x (d+1)then((d+1:Nat):Int)else old.getD x 0)->(q.2=true↔∃x:Nat,x<i/\Far nx ls gl x (d+1))->
  (dH tab ((d+1:Nat):Int) j i q).1.length=aN/\(∀x:Nat,x<aN->(dH tab ((d+1:Nat):Int) j i q).1.getD x 0=if Far nx ls gl x (d+1)then((d+1:Nat):Int)else old.getD x 0)/\((dH tab ((d+1:Nat):Int) j i q).2=true↔∃x:Nat,x<aN/\Far nx ls gl x (d+1)):=by
 intro j
 induction j with
 |zero=>
  intro i q hi hl hq hb;obtain rfl:i=aN:=om;refine⟨hl,fun x hx=> ?_,hb⟩;have:=hq x hx;simp only[hx,true_and]at this;exact this
 |succ j ih=>
  intro i q hi hl hq hb;have hit:i<aN:=om;have e1:((d+1:Nat):Int)-1=(d:Int):=om
  have hqi:q.1.getD i 0=old.getD i 0:=by
   rw[hq i hit,if_neg om]
  have hnear:=aTZ ht hk hit (dist:=q.1) fun x hx=>by
   rw[hq x hx]
   split
   ·rename_i h
    constructor
    ·intro h2;omega
    ·intro h2;have:=(XV hk (v:=(x:Int)) om om (Ab d)).1 (by simpa using h2);have:=IK h.2 this;omega
   ·exact Iff.rfl
  have hfar:(q.1.getD i 0<0/\OP (tab.getD i []) q.1 (((d+1:Nat):Int)-1)=true)↔Far nx ls gl i (d+1):=by
   rw[e1,hnear,hqi]
   constructor
   ·rintro⟨h1,l,hl,m,hm,h2⟩
    rcases hk.2 i hit with⟨k,_,h3,_⟩|⟨_,h4⟩
    ·omega
    ·exact⟨O9.2 ⟨l,hl,m,hm,h2.1⟩,fun e he=>h4 e om⟩
   ·intro h;refine⟨?_,TF h⟩
    rcases hk.2 i hit with⟨k,h2,h3,h4⟩|⟨h3,_⟩
    ·have:=IK h h4;omega
    ·omega
  unfold dH
  by_cases hc:Far nx ls gl i (d+1)
  ·rw[if_pos (hfar.2 hc)];refine ih (i+1) _ om (by simpa using hl) (fun x hx=> ?_) ?_
   ·simp only;rw[aIx om]
    by_cases hix:i=x
    ·subst hix;rw[if_pos rfl,if_pos ⟨by omega,hc⟩]
    ·rw[if_neg hix,hq x hx]
     by_cases hxi:x<i
     ·simp only[hxi,show x<i+1 by omega,true_and]
     ·simp only[hxi,show ¬x<i+1 by omega,false_and,if_false]
   ·simp only[true_iff];exact⟨i,by omega,hc⟩
  ·rw[if_neg (fun h=>hc (hfar.1 h))];refine ih (i+1) q om hl (fun x hx=> ?_) ?_
   ·rw[hq x hx]
    by_cases hix:i=x
    ·subst hix;simp only[hc,and_false,if_false]
    ·by_cases hxi:x<i
     ·simp only[hxi,show x<i+1 by omega,true_and]
     ·simp only[hxi,show ¬x<i+1 by omega,false_and,if_false]
   ·rw[hb]
    constructor
    ·rintro⟨x,h1,h2⟩;exact⟨x,by omega,h2⟩
    ·rintro⟨x,h1,h2⟩
     by_cases hix:x=i
     ·subst hix;exact(hc h2).elim
     ·exact⟨x,by omega,h2⟩
def Full(nx:Int->Int->List Int)(ls:List Int)(gl:Int->Bool)(aN:Nat)(dist:List Int):Prop:=
 dist.length=aN/\∀i:Nat,i<aN->(∃k:Nat,dist.getD i 0=k/\Far nx ls gl i k)\/(dist.getD i 0= -1/\∀e,¬Away nx ls gl i e)
theorem VV:∀ {l:List Int} {i:Nat} {x:Int},l.getD i 0<0->i<l.length->0<=x->(l.set i x).countP (·<0)+1=l.countP (·<0)
 | [],i,x,h,hi,hx=>by simp at hi
 |a::l,0,x,h,hi,hx=>by
  simp at h;simp only[Cj,Eg];simp[h,show ¬x<0 by omega]
 |a::l,i+1,x,h,hi,hx=>by
  have ih:=VV (l:=l) (i:=i) (x:=x) (by simpa using h) (by simpa using hi) hx;simp only[Bt,Eg];omega
theorem aBz{d:Int}(hd:0<=d):∀(j i:Nat) (q:List Int×Bool),i+j=q.1.length->(dH tab d j i q).1.countP (·<0)<=q.1.countP (·<0)/\((dH tab d j i q).2=true->q.2=true\/(dH tab d j i q).1.countP (·<0)<q.1.countP (·<0))
 |0,i,q,h=>⟨Ab _,fun h=>.inl h⟩
 |j+1,i,q,h=>by
  unfold dH
  split
  ·rename_i hc
   have h1:=VV (l:=q.1) (i:=i) (x:=d) hc.1 om hd;obtain⟨h2,h3⟩:=aBz hd j (i+1) (q.1.set i d,true) (by simp;omega);simp only at h2;exact⟨by omega,fun _=>.inr om⟩
  ·exact aBz hd j (i+1) q om
open Classical in
theorem aSf(ht:Tab nx ls aN tab):∀(j d:Nat) (dist:List Int),aFk nx ls gl aN dist d->dist.countP (·<0)<j->Full nx ls gl aN (dC tab j ((d+1:Nat):Int) dist)
 |0,d,dist,hk,hj=>by omega
 |j+1,d,dist,hk,hj=>by
  have h0:∀x:Nat,x<aN->dist.getD x 0=if x<0/\Far nx ls gl x (d+1)then((d+1:Nat):Int)else dist.getD x 0:=fun x hx=>by
   rw[if_neg om]
  obtain⟨h1,h2,h3⟩:=aXj ht hk aN 0 (dist,false) om hk.1 h0 smp;have hc:=aBz (tab:=tab) (d:=((d+1:Nat):Int)) om dist.length 0 (dist,false) smp;unfold dC;rw[<-hk.1]at h1 h2 h3;generalize dH tab ((d+1:Nat):Int) dist.length 0 (dist,false)=r at *;rw[hk.1]at h1 h2 h3
  split
  ·rename_i hb
   have hlt:=hc.2 hb;simp only[Al,false_or]at hlt;refine aSf ht j (d+1) r.1 ⟨h1,fun i hi=> ?_⟩ om;rw[h2 i hi]
   split
   ·rename_i hf
    exact .inl ⟨d+1,Ab _,rfl,hf⟩
   ·rename_i hf
    rcases hk.2 i hi with⟨k,g1,g2,g3⟩|⟨g1,g2⟩
    ·exact .inl ⟨k,by omega,g2,g3⟩
    ·refine .inr ⟨g1,fun e he ha=> ?_⟩
     by_cases hed:e=d+1
     ·subst hed;exact hf ⟨ha,fun e' he'=>g2 e' om⟩
     ·exact g2 e om ha
  ·rename_i hb
   have hno:∀i:Nat,i<aN->¬Far nx ls gl i (d+1):=fun i hi hf=>hb (h3.2 ⟨i,hi,hf⟩)
   have hnone:∀e:Nat,∀i:Nat,i<aN->d<e->¬Far nx ls gl i e:=by
    intro e
    induction e with
    |zero=>intro i hi he;omega
    |succ e ih=>
     intro i hi he hf
     by_cases hed:e=d
     ·subst hed;exact hno i hi hf
     ·obtain⟨l,hl,m,hm,hfm⟩:=TF hf;have hr:=ht.rng i l om om hl m hm;refine ih m.toNat om om ?_;rw[show((m.toNat:Nat):Int)=m by omega];exact hfm
   refine⟨h1,fun i hi=> ?_⟩;rw[h2 i hi,if_neg (hno i hi)]
   rcases hk.2 i hi with⟨k,g1,g2,g3⟩|⟨g1,g2⟩
   ·exact .inl ⟨k,g2,g3⟩
   ·refine .inr ⟨g1,fun e ha=> ?_⟩;obtain⟨f,h4,h5⟩:=aUG ha
    by_cases hfd:f<=d
    ·exact g2 f hfd h5.1
    ·exact hnone f i hi om h5
theorem aDN{dist:List Int}{d:Int}:∀(ms out:List Int) (x:Int),x∈addC dist d ms out↔x∈out\/(x∈ms/\dist.getD x.toNat 0=d)
 | [],out,x=>by simp[addC]
 |m::ms,out,x=>by
  unfold addC
  split
  ·rename_i h
   rw[aDN ms,Ak,Bf,Au]
   constructor
   ·rintro((k|rfl)|k)
    ·exact .inl k
    ·exact .inr ⟨.inl rfl,h.1⟩
    ·exact .inr ⟨.inr k.1,k.2⟩
   ·rintro(k|⟨rfl|k,k2⟩)
    ·exact .inl (.inl k)
    ·exact .inl (.inr rfl)
    ·exact .inr ⟨k,k2⟩
  ·rename_i h
   rw[aDN ms,Au]
   constructor
   ·rintro(k|k)
    ·exact .inl k
    ·exact .inr ⟨.inr k.1,k.2⟩
   ·rintro(k|⟨rfl|k,k2⟩)
    ·exact .inl k
    ·by_cases hx:x∈out
     ·exact .inl hx
     ·exact(h ⟨k2,hx⟩).elim
    ·exact .inr ⟨k,k2⟩
theorem S7{dist:List Int}{k:Nat}{d:Int}:∀(vs out:List Int) (x:Int),x∈bL tab dist k d vs out↔x∈out\/(∃v∈vs,x∈(tab.getD v.toNat []).getD k []/\dist.getD x.toNat 0=d)
 | [],out,x=>by simp[bL]
 |v::vs,out,x=>by
  unfold bL;rw[S7 vs,aDN]
  constructor
  ·rintro((h|h)|⟨u,h1,h2⟩)
   ·exact .inl h
   ·exact .inr ⟨v,Bd,h⟩
   ·exact .inr ⟨u,Az _ h1,h2⟩
  ·rintro(h|⟨u,h1,h2⟩)
   ·exact .inl (.inl h)
   ·rcases Au.1 h1 with rfl|h1
    ·exact .inl (.inr h2)
    ·exact .inr ⟨u,h1,h2⟩
theorem aHo{dist at_:List Int}{d:Int}:∀(j k:Nat),(∃e,k<=e/\e<k+j/\bL tab dist e d at_ []≠[])->∃e,k<=e/\e<k+j/\S6 tab dist at_ d j k=(e,bL tab dist e d at_ [])/\bL tab dist e d at_ []≠[]/\∀f,k<=f->f<e->bL tab dist f d at_ []=[]
 |0,k,⟨e,h1,h2,_⟩=>by omega
 |j+1,k,⟨e,h1,h2,h3⟩=>by
  unfold S6
  split
  ·rename_i hc
   have hek:e≠k:=fun h=>h3 (h▸hc);obtain⟨f,g1,g2,g3,g4,g5⟩:=aHo j (k+1) ⟨e,by omega,by omega,h3⟩;refine⟨f,by omega,by omega,g3,g4,fun x hx1 hx2=> ?_⟩
   by_cases hxk:x=k
   ·subst hxk;exact hc
   ·exact g5 x om hx2
  ·rename_i hc
   exact⟨k,Ab _,by omega,rfl,hc,fun f h h'=>by omega⟩
theorem LF{dist:List Int}(h:Full nx ls gl aN dist){v:Int}{k:Nat}(h0:0<=v)(h1:v<aN):dist.getD v.toNat 0=k↔Far nx ls gl v k:=by
 have hv:((v.toNat:Nat):Int)=v:=om
 rcases h.2 v.toNat om with⟨e,h3,h4⟩|⟨h3,h4⟩
 ·rw[hv]at h4
  constructor
  ·intro h5;have:e=k:=om;rw[<-this];exact h4
  ·intro h5;rw[h3,IK h4 h5]
 ·rw[hv]at h4
  constructor
  ·intro h5;omega
  ·intro h5;exact(h4 k h5.1).elim
theorem aBn(ht:Tab nx ls aN tab){v:Int}{k:Nat}(h0:0<=v)(h1:v<aN)(hk:k<ls.length):(tab.getD v.toNat []).getD k []=nx v (ls.getD k 0):=by
 rw[ht.row v.toNat om,show((v.toNat:Nat):Int)=v by omega,Aa,Bh,Ad hk,Aa,Ad hk];rfl
theorem aHM:∀ {l:List Int} {i j:Nat},l.Pairwise (·<·)->i<j->j<l.length->l.getD i 0<l.getD j 0
 | [],i,j,_,_,h=>by simp at h
 |a::l,0,j+1,h,_,hj=>by
  have hj':j<l.length:=by simpa using hj
  have:=(List.pairwise_cons.1 h).1 (l.getD j 0) (by rw[Aa,Ad hj'];exact At hj')
  simpa using this
 |a::l,i+1,j+1,h,hij,hj=>by
  have:=aHM (List.pairwise_cons.1 h).2 (i:=i) (j:=j) om (by simpa using hj)
  simpa using this
theorem aRQ(ht:Tab nx ls aN tab){dist:List Int}(hf:Full nx ls gl aN dist)(ha:ls.Pairwise (·<·)):∀(d:Nat) (at_:List Int),(∀v∈at_,(0<=v/\v<aN)/\Far nx ls gl v d)->at_≠[]->
  (oM tab dist ls d at_).length=d/\(∃v∈at_,∃g,Path nx ls v (oM tab dist ls d at_) g/\gl g=true)/\∀w v g,v∈at_->w.length=d->Path nx ls v w g->gl g=true->¬rZ w (oM tab dist ls d at_):=by
 intro d
 induction d with
 |zero=>
  intro at_ hat hne;refine⟨rfl,?_,fun w v g _ hw _ _ h=> ?_⟩
  ·cases at_ with
   |nil=>exact(hne rfl).elim
   |cons v vs=>
    have:=(hat v Bd).2;exact⟨v,Bd,v,rfl,aAU.1 this.1⟩
  ·have:w=[]:=Bw.1 hw;subst this;exact h
 |succ d ih=>
  intro at_ hat hne
  have hmem:∀k x,k<ls.length->(x∈bL tab dist k d at_ []↔∃v∈at_,x∈nx v (ls.getD k 0)/\Far nx ls gl x d):=by
   intro k x hk;rw[S7];simp only[Bv,false_or]
   constructor
   ·rintro⟨v,hv,h1,h2⟩;have hr:=(hat v hv).1;rw[aBn ht hr.1 hr.2 hk]at h1;have hl:ls.getD k 0∈ls:=by rw[Aa,Ad hk];exact At hk
    have hx:=ht.rng v _ hr.1 hr.2 hl x h1;exact⟨v,hv,h1,(LF hf hx.1 hx.2).1 h2⟩
   ·rintro⟨v,hv,h1,h2⟩;have hr:=(hat v hv).1;have hl:ls.getD k 0∈ls:=by rw[Aa,Ad hk];exact At hk
    have hx:=ht.rng v _ hr.1 hr.2 hl x h1;exact⟨v,hv,by rw[aBn ht hr.1 hr.2 hk];exact h1,(LF hf hx.1 hx.2).2 h2⟩
  have hidx:∀l∈ls,∃k,k<ls.length/\ls.getD k 0=l:=by
   intro l hl;obtain⟨k,hk,h⟩:=Bz hl;exact⟨k,hk,by rw[Aa,Ad hk,h];rfl⟩
  obtain⟨v0,hv0⟩:∃v,v∈at_:=by
   cases at_ with
   |nil=>exact(hne rfl).elim
   |cons v vs=>exact⟨v,Bd⟩
  obtain⟨l0,hl0,m0,hm0,hfm0⟩:=TF (hat v0 hv0).2;obtain⟨k0,hk0,e0⟩:=hidx l0 hl0
  have hne0:bL tab dist k0 d at_ []≠[]:=by
   intro h;have:=(hmem k0 m0 hk0).2 ⟨v0,hv0,by rw[e0];exact hm0,hfm0⟩;rw[h]at this;cases this
  obtain⟨e,_,h2,h3,h4,h5⟩:=aHo (tab:=tab) (dist:=dist) (at_:=at_) (d:=d) (ls.length+1) 0 ⟨k0,by omega,by omega,hne0⟩
  have hel:e<ls.length:=by
   apply Nat.lt_of_not_le;intro h
   by_cases he0:k0<e
   ·exact hne0 (h5 k0 om he0)
   ·omega
  have hel2:ls.getD e 0∈ls:=by rw[Aa,Ad hel];exact At hel
  unfold oM;rw[h3];simp only
  have hat2:∀x∈bL tab dist e d at_ [],(0<=x/\x<aN)/\Far nx ls gl x d:=by
   intro x hx;obtain⟨v,hv,g1,g2⟩:=(hmem e x hel).1 hx;have hr:=(hat v hv).1;exact⟨ht.rng v _ hr.1 hr.2 hel2 x g1,g2⟩
  obtain⟨i1,⟨m,hm,g,i2,i3⟩,i4⟩:=ih _ hat2 h4;refine⟨by simp[i1],?_,?_⟩
  ·obtain⟨v,hv,g1,g2⟩:=(hmem e m hel).1 hm;exact⟨v,hv,g,⟨hel2,m,g1,i2⟩,i3⟩
  ·intro w v g' hv hw hp hg hlt
   cases w with
   |nil=>simp at hw
   |cons l w=>
    obtain⟨hl,m',hm',hp'⟩:=hp
    have hfm:Far nx ls gl m' d:=by
     refine⟨⟨w,g',by simpa using hw,hp',hg⟩,fun x hx hax=> ?_⟩;exact(hat v hv).2.2 (x+1) om (O9.2 ⟨l,hl,m',hm',hax⟩)
    obtain⟨k,hk,ek⟩:=hidx l hl;have hmc:m'∈bL tab dist k d at_ []:=(hmem k m' hk).2 ⟨v,hv,by rw[ek];exact hm',hfm⟩
    have hke:e<=k:=by
     apply Nat.le_of_not_lt;intro h;rw[h5 k om h]at hmc;cases hmc
    rcases hlt with h|⟨h,h'⟩
    ·by_cases hek:e=k
     ·subst hek;omega
     ·have:=aHM ha (i:=e) (j:=k) om hk;omega
    ·have:e=k:=by
      apply Nat.le_antisymm hke;apply Nat.le_of_not_lt;intro hc;have:=aHM ha (i:=e) (j:=k) hc hk;omega
     subst this;exact i4 w m' g' hmc (by simpa using hw) hp' hg h'
theorem aUF(ht:Tab nx ls aN tab){dist:List Int}(hf:Full nx ls gl aN dist)(ha:ls.Pairwise (·<·)){s:Int}(h0:0<=s)(h1:s<aN):ED (Hits nx ls [s] gl) (aGI tab ls dist s):=by
 have hv:((s.toNat:Nat):Int)=s:=om;unfold aGI
 rcases hf.2 s.toNat om with⟨k,h2,h3⟩|⟨h2,h3⟩
 ·rw[hv]at h3;rw[h2,if_neg om,Ca];obtain⟨i1,⟨v,hv1,g,i2,i3⟩,i4⟩:=aRQ ht hf ha k [s] (fun v hv=>by simp at hv;subst hv;exact⟨⟨h0,h1⟩,h3⟩) smp;have:v=s:=by simpa using hv1
  subst this;refine .inl ⟨rfl,⟨g,⟨v,by simp,i2⟩,i3⟩,?_⟩;rintro x ⟨u,⟨y,hy,hp⟩,hg⟩ hlt;have:y=v:=by simpa using hy
  subst this;have hlt':slt x (oM tab dist ls k [y]):=hlt
  rcases hlt' with h|⟨h,h'⟩
  ·exact h3.2 x.length om ⟨x,u,rfl,hp,hg⟩
  ·exact i4 x y u smp om hp hg h'
 ·rw[hv]at h3;rw[h2,if_pos om];refine .inr ⟨rfl,?_⟩;rintro w ⟨u,⟨y,hy,hp⟩,hg⟩;have:y=s:=by simpa using hy
  subst this;exact h3 w.length ⟨w,u,rfl,hp,hg⟩
end
end
def sysD:List Sys->List D
 | []=>[]
 |s::l=>.int .i64 s.al::.int .i64 s.st::.ivs s.es.length (aXo s.es)::sysD l
def gN:List Aut->List D
 | []=>[]
 |a::l=>.int .i64 a.al::.ivs a.nx.length (aE a.nx)::.ivs a.ac.length (aD a.ac)::gN l
theorem QE:∀ {l:List Sys},(sysD l).length=l.length*3
 | []=>rfl
 |p::l=>by simp only[sysD,Ae,QE (l:=l)];omega
theorem JS:∀ {l:List Aut},(gN l).length=l.length*3
 | []=>rfl
 |p::l=>by simp only[gN,Ae,JS (l:=l)];omega
theorem aIQ:∀ {l:List Sys} {k:Nat},(sysD l).drop (k*3)=sysD (l.drop k)
 |l,0=>by simp
 | [],k+1=>by simp[sysD]
 |p::l,k+1=>by
  rw[Cc,Nat.one_mul];simp only[sysD,Ds];exact aIQ
theorem IO:∀ {l:List Aut} {k:Nat},(gN l).drop (k*3)=gN (l.drop k)
 |l,0=>by simp
 | [],k+1=>by simp[gN]
 |p::l,k+1=>by
  rw[Cc,Nat.one_mul];simp only[gN,Ds];exact IO
theorem aW6{l:List Sys}{k:Nat}(h:k<l.length):(((sysD l).drop (k*3+1)).map A.d).head? =some (.d (.int .i64 (l.getD k default).st)):=by
 rw[<-Cl,aIQ,cC h (d:=default)];rfl
theorem aXA{l:List Aut}{k:Nat}(h:k<l.length):(((gN l).drop (k*3+1)).map A.d).head? =some (.d (.ivs (l.getD k default).nx.length (aE (l.getD k default).nx))):=by
 rw[<-Cl,IO,cC h (d:=default)];rfl
theorem aXv{l:List Aut}{k:Nat}(h:k<l.length):(((gN l).drop (k*3+2)).map A.d).head? =some (.d (.ivs (l.getD k default).ac.length (aD (l.getD k default).ac))):=by
 rw[<-Cl,IO,cC h (d:=default)];rfl
theorem aVz{l:List Aut}{k:Nat}(h:k<l.length):(((gN l).drop (k*3)).map A.d).take 3=[.d (.int .i64 (l.getD k default).al),.d (.ivs (l.getD k default).nx.length (aE (l.getD k default).nx)),.d (.ivs (l.getD k default).ac.length (aD (l.getD k default).ac))]:=by
 rw[IO,cC h (d:=default)];rfl
structure Net where
 ps:List Sys
 us:List Aut
 start:List Int
 ls:Int
 kind:Int
 goal:Int
def netC(N:Net):List D:=[.ivs N.ps.length (sysD N.ps),.ivs N.us.length (gN N.us),.ivs N.start.length (ints N.start),.int .i64 N.ls,.int .i64 N.kind,.int .i64 N.goal]
def QP(N:Net):List Int:=N.ps.map (·.st)++N.us.map fun a=>(a.nx.length:Int)
def decR:List Int->Int->List Int
 | [],_=>[]
 |z::zs,node=>node.tmod z::decR zs (node.tdiv z)
def decN(zs:List Int)(node:Int):List Int:=(decR zs.reverse node).reverse
def encN:List Int->List Int->Int->Int
 |z::zs,s::ss,node=>encN zs ss (node*z+s)
 |_,_,node=>node
def mulN(out:List Int)(z:Int)(ch:List Int):List Int:=out.flatMap fun o=>ch.map fun c=>o*z+c
def okN(N:Net)(states:List Int)(i:Nat):Bool:=(N.us.getD i default).ac.getD (states.getD (N.ps.length+i) 0).toNat false
def QO(N:Net)(states:List Int)(mvs:List (List Int)):Bool:=
 if N.kind=0 then okN N states 0
 else if N.kind=1 then okN N states 0 !=okN N states 1
 else if N.kind=2 then okN N states 0&& !okN N states 1
 else if N.kind=3 then !okN N states 0
 else if N.kind=5 then decide (states.getD N.ps.length 0=N.goal)
 else mvs.all fun r=>r.isEmpty
section
variable{R:Type}{L n:Nat}
theorem NE:type_of% (AI @QE @JS):=
 ⟨@QE,@JS⟩
theorem lR{l:List Int}{i:Nat}(h:i<l.length):l.getD i 0∈l:=by
 rw[Aa,Ad h];exact At h
theorem aT4{l:List Int}{j:Nat}(h:j<l.length):(l.take (j+1)).reverse=l.getD j 0::(l.take j).reverse:=by
 rw[Cz,Ad h,List.reverse_append,Aa,Ad h];rfl
def decE:List Int->Int->Int
 | [],n=>n
 |z::zs,n=>decE zs (n.tdiv z)
theorem aMf:∀(zs:List Int) (n:Int),(decR zs n).length=zs.length
 | [],_=>rfl
 |z::zs,n=>by simp[decR,aMf zs]
theorem aDm(zs:List Int)(n:Int):(decN zs n).length=zs.length:=by simp[decN,aMf]
theorem aGP(hn:1<=n){zs:List Int}(hz:∀z∈zs,0<z/\z<=65536)(hl:zs.length<=1000){k:KE R}:∀(j:Nat) (i node:Int) (m:Nat) (o:List Int) (len:Nat) (hi:i=(j:Int)-1) (hj:j<=zs.length) (h0:0<=node) (h1:node<=4294967296) (hm:j<m) (ho:o.length=zs.length) (hlen:len=zs.length),
  aT env (aA env L n) L 0 [] Bz56 (GD 0) (Z2 (U2 (Z2 (Z1 (U16 (U8 (U2 ([])))))))) m (.d (.ivs zs.length (ints zs))::nI node::Y2 (.d .nils::.sl 0 0 0 len::nI i::Y16 (Y8 (Y2 ([]))))) [.arr (ints o) 1 0] k
  =k (.exit 0) (.d (.ivs zs.length (ints zs))::nI (decE (zs.take j).reverse node)::Y2 (.d .nils::.sl 0 0 0 len::nI (-1)::Y16 (Y8 (Y2 ([]))))) [.arr (ints ((decR (zs.take j).reverse node).reverse++o.drop j)) 1 0]:=by
 intro j
 induction j with
 |zero=>
  intro i node m o len hi hj h0 h1 hm ho hlen;obtain _|m:=m;omega;obtain rfl:i= -1:=om
  simp-implicitDefEqProofs (maxSteps:=9^7) (disch:=try exact Dz) only[↓DN,↓kRet,UP,simprocAttr,HS,DJ,Tryz.f138];simp[decR,decE]
 |succ j ih=>
  intro i node m o len hi hj h0 h1 hm ho hlen;obtain _|m:=m;omega;obtain rfl:i=(j:Int):=om;subst hlen;have hk:j<zs.length:=om;have hk2:j<o.length:=om;have hc:(j:Int)<zs.length:=om;obtain⟨z1,z2⟩:=hz _ (lR hk);have hz0:¬zs.getD j 0=0:=om;have t0:0<=node.tdiv (zs.getD j 0):=Int.tdiv_nonneg h0 om
  have t1:node.tdiv (zs.getD j 0)<=node:=by
   rw[Eu h0];exact Int.ediv_le_self _ h0
  have ih':=ih ((j:Int)-1) (node.tdiv (zs.getD j 0)) m (o.set j (node.tmod (zs.getD j 0))) zs.length rfl om t0 om om (by simpa using ho) rfl;rw[aT4 hk];simp only[decR,decE,List.reverse_cons,Ao,Ax,Aq]
  have e:(o.set j (node.tmod (zs.getD j 0))).drop j=node.tmod (zs.getD j 0)::o.drop (j+1):=by
   rw[cC (d:=0) (by simpa using hk2),aIx hk2,if_pos rfl,List.drop_set_of_lt om]
  rw[e]at ih';clear ih e;have hj0:(0:Int)<=j:=om
  simp-implicitDefEqProofs (maxSteps:=9^7) (disch:=try exact Dz) only[↓DN,↓kRet,UP,simprocAttr,hc,hj0,↓aBm,↓ih',HS,DJ,Tryz.f138]
theorem W7(hn:2<=n)(zs:List Int)(node:Int)(hz:∀z∈zs,0<z/\z<=65536)(hl:zs.length<=1000)(h0:0<=node)(h1:node<=4294967296)(hL:2^60<=L):aA env L n 138 [.d (.ivs zs.length (ints zs)),nI node] []=some (.d (.ivs zs.length (ints (decN zs node))),[]):=by
 have loop_c:=fun {R n k} hn=> @aGP R L n hn zs hz hl k zs.length ((zs.length:Int)-1) node L (List.replicate zs.length 0) zs.length rfl (Ab _) h0 h1 om smp rfl;have e:(List.replicate zs.length (0:Int)).drop zs.length=[]:=smp;rw[Cu,e,Ai]at loop_c;have e2:(decR zs.reverse node).reverse=decN zs node:=rfl;have e3:=aDm zs node;rw[e2]at loop_c;generalize decN zs node=w at *;have e4:(ints w).take zs.length=ints w:=cK om;obtain _|n:=n;omega
 simp-implicitDefEqProofs (maxSteps:=9^7) (disch:=try exact Dz) only[↓DN,↓kAsg,↓kRet,UP,simprocAttr,↓tL,↓loop_c,e4,e3,aKF,aAt,Tryz.f138]
theorem WH:type_of% fun {L} zs node hz hl h0 h1 hL=>ks fun hn=> @W7 L _ hn zs node hz hl h0 h1 hL:=fun {L} zs node hz hl h0 h1 hL=>ks fun hn=> @W7 L _ hn zs node hz hl h0 h1 hL
def S0:List Int->List Int->Int->Prop
 |z::zs,s::ss,node=>(0<=node*z/\node*z<=4294967296)/\(0<=node*z+s/\node*z+s<=4294967296)/\S0 zs ss (node*z+s)
 | [],[],_=>True
 |_,_,_=>False
theorem aGs(hn:1<=n){zs ss:List Int}(hl:zs.length<=1000)(hls:ss.length=zs.length){k:KE R}:∀(j i:Nat) (node:Int) (m:Nat) (hi:i+j=zs.length) (hok:S0 (zs.drop i) (ss.drop i) node) (hm:j<m),
  aT env (aA env L n) L 0 [] Bz64 (GQ 0) (Z2 (U2 (Z2 (Z1 (U16 (U2 ([]))))))) m (.d (.ivs zs.length (ints zs))::.d (.ivs ss.length (ints ss))::Y2 (nI 0::nI node::nI i::Y16 (Y2 ([])))) [] k
  =k (.exit 0) (.d (.ivs zs.length (ints zs))::.d (.ivs ss.length (ints ss))::Y2 (nI 0::nI (encN (zs.drop i) (ss.drop i) node)::nI (zs.length)::Y16 (Y2 ([])))) []:=by
 intro j
 induction j with
 |zero=>
  intro i node m hi hok hm;obtain _|m:=m;omega;obtain rfl:i=zs.length:=om
  simp-implicitDefEqProofs (maxSteps:=9^7) (disch:=try exact Dz) only[↓DN,↓kRet,UP,simprocAttr,Ah,HR,DU,Tryz.f140];simp[encN]
 |succ j ih=>
  intro i node m hi hok hm;obtain _|m:=m;omega;have hk:i<zs.length:=om;have hk2:i<ss.length:=om;have hc:(i:Int)<zs.length:=om;have hc2:(i:Int)<ss.length:=om;rw[cC hk (d:=0),cC hk2 (d:=0)]at hok|-;obtain⟨b1,b2,b3⟩:=hok;have ih':=ih (i+1) _ m om b3 om;rw[cs1 i]at ih';simp only[encN];clear ih b3
  simp-implicitDefEqProofs (maxSteps:=9^7) (disch:=try exact Dz) only[↓DN,↓kRet,UP,simprocAttr,hc,hc2,↓ih',HR,DU,Tryz.f140]
theorem aKX(hn:2<=n)(zs ss:List Int)(hl:zs.length<=1000)(hls:ss.length=zs.length)(hok:S0 zs ss 0)(hL:2^60<=L):aA env L n 140 [.d (.ivs zs.length (ints zs)),.d (.ivs ss.length (ints ss))] []=some (nI (encN zs ss 0),[]):=by
 have loop_c:=fun {R n k} hn=> @aGs R L n hn zs ss hl hls k zs.length 0 0 L om hok om;simp only[Ba,Ap]at loop_c;obtain _|n:=n;omega
 simp-implicitDefEqProofs (maxSteps:=9^7) (disch:=try exact Dz) only[↓DN,↓kAsg,UP,simprocAttr,↓loop_c,aKq,XW,Tryz.f140]
theorem aKp{hq:H}{k:KA R}(hn:2<=n)(zs ss:List Int)(hl:zs.length<=1000)(hls:ss.length=zs.length)(hok:S0 zs ss 0)(hL:2^60<=L):aX env (aA env L n) hq 140 [.d (.ivs zs.length (ints zs)),.d (.ivs ss.length (ints ss))] k=k (nI (encN zs ss 0)) hq:=
 bS rfl (aKX hn zs ss hl hls hok hL) rfl (.inl rfl)
theorem aDn(hn:1<=n){N:Net}(h1:N.ps.length<=1000)(h2:N.us.length<=1000){k:KE R}:∀(j i m:Nat) (o:List Int) (len:Nat) (hi:i+j=N.ps.length) (hm:j<m) (hlen:len=o.length) (ho:o.length+j<=4000),
  aT env (aA env L n) L 0 [] Bz43 (tT 0) (U1 (Z4 (U32 (U4 ([]))))) m (Y1 (.ptr 0 0 0::.d .nils::.sl 1 0 0 len::nI i::Y32 (Y4 ([])))) [.box ((netC N).map A.d),.arr (ints o) 1 0] k
  =k (.exit 0) (Y1 (.ptr 0 0 0::.d .nils::.sl 1 0 0 (o++(N.ps.drop i).map (·.st)).length::nI (N.ps.length)::Y32 (Y4 ([])))) [.box ((netC N).map A.d),.arr (ints (o++(N.ps.drop i).map (·.st))) 1 0]:=by
 intro j
 induction j with
 |zero=>
  intro i m o len hi hm hlen ho;obtain _|m:=m;omega;obtain rfl:i=N.ps.length:=om;subst hlen
  simp-implicitDefEqProofs (maxSteps:=9^7) (disch:=try exact Dz) only[↓DN,↓kRet,UP,simprocAttr,netC,Ah,MJ,GX,Tryz.f135];simp
 |succ j ih=>
  intro i m o len hi hm hlen ho;obtain _|m:=m;omega;subst hlen;have hk:i<N.ps.length:=om;have hc:(i:Int)<N.ps.length:=om;have g:=aW6 hk;have ih':=ih (i+1) m (o++[(N.ps.getD i default).st]) (o.length+1) om om smp (by rw[Af,Da];omega);rw[cs1 i]at ih';rw[cC hk (d:=default),Aj];simp only[Ao,Ax,Aq]at ih';clear ih;generalize(N.ps.getD i default).st=s at *;simp only[netC,Aj,As]at ih'|-
  simp-implicitDefEqProofs (maxSteps:=9^7) (disch:=try exact Dz) only[↓DN,↓kRet,UP,simprocAttr,NE,Am,Cg,Cl,hc,g,↓ih',MJ,GX,Tryz.f135]
theorem aEF(hn:1<=n){N:Net}(h1:N.ps.length<=1000)(h2:N.us.length<=1000)(h3:∀a∈N.us,a.nx.length<=1000){k:KE R}:∀(j i m:Nat) (o:List Int) (len i4:Nat) (hi:i+j=N.us.length) (hm:j<m) (hlen:len=o.length) (ho:o.length+j<=4000),
  aT env (aA env L n) L 0 [] Bz43 (tT 1) (U1 (Z4 (Z1 (U32 (U2 (U1 ([]))))))) m (Y1 (.ptr 0 0 0::.d .nils::.sl 1 0 0 len::nI i4::nI i::Y32 (Y2 (Y1 ([]))))) [.box ((netC N).map A.d),.arr (ints o) 1 0] k
  =k (.exit 2) (Y1 (.ptr 0 0 0::.d .nils::.sl 1 0 0 (o++(N.us.drop i).map fun a=>(a.nx.length:Int)).length::nI i4::nI (N.us.length)::Y32 (Y2 (Y1 ([]))))) [.box ((netC N).map A.d),.arr (ints (o++(N.us.drop i).map fun a=>(a.nx.length:Int))) 1 0]:=by
 intro j
 induction j with
 |zero=>
  intro i m o len i4 hi hm hlen ho;obtain _|m:=m;omega;obtain rfl:i=N.us.length:=om;subst hlen
  simp-implicitDefEqProofs (maxSteps:=9^7) (disch:=try exact Dz) only[↓DN,↓kRet,UP,simprocAttr,netC,Ah,KK,GF,Tryz.f135];simp
 |succ j ih=>
  intro i m o len i4 hi hm hlen ho;obtain _|m:=m;omega;subst hlen;have hk:i<N.us.length:=om;have hc:(i:Int)<N.us.length:=om;have hmem:N.us.getD i default∈N.us:=by rw[Aa,Ad hk];exact At hk
  have ha:=h3 _ hmem;have g:=aXA hk;have ih':=ih (i+1) m (o++[((N.us.getD i default).nx.length:Int)]) (o.length+1) i4 om om smp (by rw[Af,Da];omega);rw[cs1 i]at ih';rw[cC hk (d:=default),Aj];simp only[Ao,Ax,Aq]at ih';clear ih hmem;generalize N.us.getD i default=s at *;simp only[netC,Aj,As]at ih'|-
  simp-implicitDefEqProofs (maxSteps:=9^7) (disch:=try exact Dz) only[↓DN,↓kRet,UP,simprocAttr,NE,Am,Cg,Cl,hc,g,↓ih',KK,GF,Tryz.f135]
theorem ZN(hn:2<=n)(N:Net)(h1:N.ps.length<=1000)(h2:N.us.length<=1000)(h3:∀a∈N.us,a.nx.length<=1000)(hL:2^60<=L):aA env L n 135 [.agg ((netC N).map A.d)] []=some (.d (.ivs (QP N).length (ints (QP N))),[]):=by
 have loop_a:=fun {R n k} hn=> @aDn R L n hn N h1 h2 k N.ps.length 0 L [] 0 om om rfl (by simp;omega);have loop_b:=fun {R n k} hn=> @aEF R L n hn N h1 h2 h3 k N.us.length 0 L (N.ps.map (·.st)) (N.ps.map (·.st)).length N.ps.length om om rfl (by simp;omega);simp only[Ba,Ap,Aq,kG]at loop_a loop_b;have e:N.ps.map (·.st)++N.us.map (fun a=>(a.nx.length:Int))=QP N:=rfl;rw[e]at loop_b;generalize QP N=w at *;generalize N.ps.map (·.st)=v at *;have e4:(ints w).take w.length=ints w:=cK (Ab _);simp only[netC,Aj,As]at loop_a loop_b|-;obtain _|n:=n;omega
 simp-implicitDefEqProofs (maxSteps:=9^7) (disch:=try exact Dz) only[↓DN,↓kAsg,↓kRet,UP,simprocAttr,↓loop_a,↓loop_b,e4,aM2,aCX,Tryz.f135]
end
section
variable{R:Type}{L n:Nat}
theorem aN6(hn:1<=n){l:List Int}{x:Int}(hl:l.length<=4294967290){k:KE R}:∀(j i m:Nat) (hi:i+j=l.length) (hm:j<m),
  aT env (aA env L n) L 0 [] Bz38 (YR 0) Bz70 m (.d (.ivs l.length (ints l))::nI x::Y2 (.d (.bool false)::nI i::Y8 (Y4 ([])))) [] k
  =match seek (fun i=>decide (l.getD i 0=x)) j i with
   |none=>k (.exit 0) (.d (.ivs l.length (ints l))::nI x::Y2 (.d (.bool false)::nI (l.length)::Y8 (Y4 ([])))) []
   |some q=>k .ret (.d (.ivs l.length (ints l))::nI x::Y2 (.d (.bool true)::nI q::Y8 (Y4 ([])))) []:=by
 intro j
 induction j with
 |zero=>
  intro i m hi hm;obtain _|m:=m;omega;obtain rfl:i=l.length:=om
  simp-implicitDefEqProofs (maxSteps:=9^7) (disch:=try exact Dz) only[↓DN,↓kRet,UP,simprocAttr,Ah,GK,IS,Tryz.f134]<;>rfl
 |succ j ih=>
  intro i m hi hm;obtain _|m:=m;omega;have hk:i<l.length:=om;have hc:(i:Int)<l.length:=om;have hi0:(0:Int)<=i:=om
  by_cases he:l.getD i 0=x
  ·rw[fX (p:=fun i=>decide (l.getD i 0=x)) (by simpa using he)]
   simp-implicitDefEqProofs (maxSteps:=9^7) (disch:=try exact Dz) only[↓DN,↓kAsg,↓kRet,UP,simprocAttr,hc,hi0,he,GK,IS,Tryz.f134]
  ·rw[jK (p:=fun i=>decide (l.getD i 0=x)) (by simpa using he)];have ih':=ih (i+1) m om om;rw[cs1 i]at ih';clear ih
   simp-implicitDefEqProofs (maxSteps:=9^7) (disch:=try exact Dz) only[↓DN,↓kRet,UP,simprocAttr,hc,hi0,he,↓ih',GK,IS,Tryz.f134]
theorem aJQ(hn:2<=n)(l:List Int)(x:Int)(hl:l.length<=4294967290)(hL:2^60<=L):aA env L n 134 [.d (.ivs l.length (ints l)),nI x] []=some (.d (.bool (decide (x∈l))),[]):=by
 have loop_c:=fun {R n k} hn=> @aN6 R L n hn l x hl k l.length 0 L om om;simp only[Ap]at loop_c
 cases hs:seek (fun i=>decide (l.getD i 0=x)) l.length 0 with
 |none=>
  have hx:¬x∈l:=by
   intro hx;obtain⟨q,hq,e⟩:=Bz hx;have:=kY.1 hs q om om;simp only[decide_eq_false_iff_not]at this;exact this (by rw[Aa,Ad hq,e];rfl)
  simp only[hs]at loop_c;obtain _|n:=n;omega
  simp-implicitDefEqProofs (maxSteps:=9^7) (disch:=try exact Dz) only[↓DN,↓kAsg,UP,simprocAttr,↓loop_c,hx,aIR,aDJ,Tryz.f134]
 |some q=>
  obtain⟨h1,h2,h3,_⟩:=zH hs
  have hx:x∈l:=by
   simp only[decide_eq_true_eq]at h3;rw[<-h3];exact lR om
  simp only[hs]at loop_c;obtain _|n:=n;omega
  simp-implicitDefEqProofs (maxSteps:=9^7) (disch:=try exact Dz) only[↓DN,↓kAsg,UP,simprocAttr,↓loop_c,hx,aIR,aDJ,Tryz.f134]
theorem aJx:type_of% fun {L} l x hl hL=>kt fun hn=> @aJQ L _ hn l x hl hL:=fun {L} l x hl hL=>kt fun hn=> @aJQ L _ hn l x hl hL
theorem D8{L:Nat}{id0 g0 o0 len0:Nat}{x:Int}:KV L 134 [.sl id0 g0 o0 len0,nI x]:=fun _ _ _ _=>d7 PX
def U5(dist r:List Int)(d:Int):Nat->Bool:=fun i=>decide (dist.getD (r.getD i 0).toNat 0=d)
def OQ(dist:List Int)(mvs:List (List Int))(d:Int):Nat->Bool:=fun k=>(seek (U5 dist (mvs.getD k []) d) (mvs.getD k []).length 0).isSome
theorem aNr{α:Type}{l:List α}{p:α->Bool}{q:Nat->Bool}{x:α}(hq:∀i,i<l.length->q i=p (l.getD i x)):(seek q l.length 0).isSome=l.any p:=by
 rw[Bool.eq_iff_iff,Ef,List.any_eq_true]
 constructor
 ·rintro⟨r,hr⟩;obtain⟨_,h2,h3,_⟩:=zH hr;refine⟨l.getD r x,?_,by rw[<-hq r om];exact h3⟩;rw[Aa,Ad om];exact At om
 ·rintro⟨y,hy,hp⟩;obtain⟨r,hr,e⟩:=Bz hy
  cases hs:seek q l.length 0 with
  |some z=>exact⟨z,rfl⟩
  |none=>
   have:=kY.1 hs r om om;rw[hq r hr,Aa,Ad hr,Bg,e,hp]at this;cases this
theorem aSC{dist:List Int}{mvs:List (List Int)}{d:Int}:(seek (OQ dist mvs d) mvs.length 0).isSome=OP mvs dist d:=by
 unfold OP;refine aNr (x:=[]) fun k hk=> ?_;unfold OQ;exact aNr (x:=0) fun i hi=>rfl
theorem aG8(hn:1<=n){mvs:List (List Int)}{dist:List Int}{d:Int}{q:Nat}(hq:q<mvs.length)(hl:mvs.length<=4294967290)(hr:(mvs.getD q []).length<=4294967290)(hd:dist.length<=4294967290)(hm':∀x∈mvs.getD q [],0<=x/\x<dist.length){k:KE R}:∀(j i m:Nat) (hi:i+j=(mvs.getD q []).length) (hm:j<m),
  aT env (aA env L n) L 0 [] Bz20 (wS 1) (Z2 (Z1 (U2 (U1 (Z2 (Z1 (U16 (U8 (U2 (U1 ([]))))))))))) m (.d (.ivs mvs.length (aE mvs))::.d (.ivs dist.length (ints dist))::nI d::Y2 (Y1 (.d (.bool false)::nI q::nI i::Y16 (Y8 (Y2 (Y1 ([]))))))) [] k
  =match seek (U5 dist (mvs.getD q []) d) j i with
   |none=>k (.exit 2) (.d (.ivs mvs.length (aE mvs))::.d (.ivs dist.length (ints dist))::nI d::Y2 (Y1 (.d (.bool false)::nI q::nI ((mvs.getD q []).length)::Y16 (Y8 (Y2 (Y1 ([]))))))) []
   |some r=>k .ret (.d (.ivs mvs.length (aE mvs))::.d (.ivs dist.length (ints dist))::nI d::Y2 (Y1 (.d (.bool true)::nI q::nI r::Y16 (Y8 (Y2 (Y1 ([]))))))) []:=by
 intro j;have hcq:(q:Int)<mvs.length:=om;have hq0:(0:Int)<=q:=om
 induction j with
 |zero=>
  intro i m hi hm;obtain _|m:=m;omega;obtain rfl:i=(mvs.getD q []).length:=om
  simp-implicitDefEqProofs (maxSteps:=9^7) (disch:=try exact Dz) only[↓DN,↓kRet,UP,simprocAttr,LA,hcq,hq0,Ah,AQ,zZ,Tryz.f152]<;>rfl
 |succ j ih=>
  intro i m hi hm;obtain _|m:=m;omega;have hk:i<(mvs.getD q []).length:=om;have hc:(i:Int)<(mvs.getD q []).length:=om;have hi0:(0:Int)<=i:=om;obtain⟨b1,b2⟩:=hm' _ (lR hk);have b3:((mvs.getD q []).getD i 0).toNat<dist.length:=om
  by_cases he:dist.getD ((mvs.getD q []).getD i 0).toNat 0=d
  ·rw[fX (p:=U5 dist (mvs.getD q []) d) (by simpa [U5]using he)]
   simp-implicitDefEqProofs (maxSteps:=9^7) (disch:=try exact Dz) only[↓DN,↓kAsg,↓kRet,UP,simprocAttr,LA,hcq,hq0,hc,hi0,b1,b2,he,AQ,zZ,Tryz.f152]
  ·rw[jK (p:=U5 dist (mvs.getD q []) d) (by simpa [U5]using he)];have ih':=ih (i+1) m om om;rw[cs1 i]at ih';clear ih
   simp-implicitDefEqProofs (maxSteps:=9^7) (disch:=try exact Dz) only[↓DN,↓kRet,UP,simprocAttr,LA,hcq,hq0,hc,hi0,b1,b2,he,↓ih',AQ,zZ,Tryz.f152]
theorem aHf(hn:1<=n)(hL:2^60<=L){mvs:List (List Int)}{dist:List Int}{d:Int}(hl:mvs.length<=4294967290)(hr:∀r∈mvs,r.length<=4294967290/\∀x∈r,0<=x/\x<dist.length)(hd:dist.length<=4294967290){k:KE R}:∀(j q m:Nat) (hi:q+j=mvs.length) (hm:j<m),
  aT env (aA env L n) L 0 [] Bz20 (wS 0) (Z2 (Z1 (U2 (U1 (Z2 (U16 (U8 (U4 ([]))))))))) m (.d (.ivs mvs.length (aE mvs))::.d (.ivs dist.length (ints dist))::nI d::Y2 (Y1 (.d (.bool false)::nI q::Y16 (Y8 (Y4 ([])))))) [] k
  =match seek (OQ dist mvs d) j q with
   |none=>k (.exit 0) (.d (.ivs mvs.length (aE mvs))::.d (.ivs dist.length (ints dist))::nI d::Y2 (Y1 (.d (.bool false)::nI (mvs.length)::Y16 (Y8 (Y4 ([])))))) []
   |some r=>k .ret (.d (.ivs mvs.length (aE mvs))::.d (.ivs dist.length (ints dist))::nI d::Y2 (Y1 (.d (.bool true)::nI r::Y16 (Y8 (Y4 ([])))))) []:=by
 intro j
 induction j with
 |zero=>
  intro q m hi hm;obtain _|m:=m;omega;obtain rfl:q=mvs.length:=om
  simp-implicitDefEqProofs (maxSteps:=9^7) (disch:=try exact Dz) only[↓DN,↓kRet,UP,simprocAttr,Ah,A2,BN,Tryz.f152]<;>rfl
 |succ j ih=>
  intro q m hi hm;obtain _|m:=m;omega;have hk:q<mvs.length:=om;have hc:(q:Int)<mvs.length:=om;have hq0:(0:Int)<=q:=om;have hmem:mvs.getD q []∈mvs:=by rw[Aa,Ad hk];exact At hk
  obtain⟨r1,r2⟩:=hr _ hmem;have loop_c:=fun {R n k} hn=> @aG8 R L n hn mvs dist d q hk hl r1 hd r2 k (mvs.getD q []).length 0 L om om;simp only[Ap]at loop_c
  cases hs:seek (U5 dist (mvs.getD q []) d) (mvs.getD q []).length 0 with
  |some z=>
   rw[fX (p:=OQ dist mvs d) (by unfold OQ;rw[hs];rfl)];simp only[hs]at loop_c
   simp-implicitDefEqProofs (maxSteps:=9^7) (disch:=try exact Dz) only[↓DN,↓kAsg,↓kRet,UP,simprocAttr,hc,↓loop_c,A2,BN,Tryz.f152]
  |none=>
   rw[jK (p:=OQ dist mvs d) (by unfold OQ;rw[hs];rfl)];simp only[hs]at loop_c;have ih':=ih (q+1) m om om;rw[cs1 q]at ih';clear ih
   simp-implicitDefEqProofs (maxSteps:=9^7) (disch:=try exact Dz) only[↓DN,↓kAsg,↓kRet,UP,simprocAttr,hc,↓loop_c,↓ih',A2,BN,Tryz.f152]
theorem aDf(hn:2<=n)(mvs:List (List Int))(dist:List Int)(d:Int)(hl:mvs.length<=4294967290)(hr:∀r∈mvs,r.length<=4294967290/\∀x∈r,0<=x/\x<dist.length)(hd:dist.length<=4294967290)(hL:2^60<=L):aA env L n 152 [.d (.ivs mvs.length (aE mvs)),.d (.ivs dist.length (ints dist)),nI d] []=some (.d (.bool (OP mvs dist d)),[]):=by
 have loop_c:=fun {R n k} hn=> @aHf R L n hn hL mvs dist d hl hr hd k mvs.length 0 L om om;simp only[Ap]at loop_c;rw[<-aSC]
 cases hs:seek (OQ dist mvs d) mvs.length 0 with
 |none=>
  simp only[hs]at loop_c;obtain _|n:=n;omega
  simp-implicitDefEqProofs (maxSteps:=9^7) (disch:=try exact Dz) only[↓DN,↓kAsg,UP,simprocAttr,↓loop_c,aCj,UX,Tryz.f152]
 |some q=>
  simp only[hs]at loop_c;obtain _|n:=n;omega
  simp-implicitDefEqProofs (maxSteps:=9^7) (disch:=try exact Dz) only[↓DN,↓kAsg,UP,simprocAttr,↓loop_c,aCj,UX,Tryz.f152]
theorem aOH:type_of% fun {L} mvs dist d hl hr hd hL=>kt fun hn=> @aDf L _ hn mvs dist d hl hr hd hL:=fun {L} mvs dist d hl hr hd hL=>kt fun hn=> @aDf L _ hn mvs dist d hl hr hd hL
theorem WT{L:Nat}{id1 g1 o1 len1:Nat}{mvs:List (List Int)}{d:Int}:KV L 152 [.d (.ivs mvs.length (aE mvs)),.sl id1 g1 o1 len1,nI d]:=fun _ _ _ _=>d7 G8
theorem aSO(hn:1<=n)(N:Net)(states:List Int)(i:Nat)(hi:i<N.us.length)(h1:N.ps.length<=1000)(h2:N.us.length<=1000)(hs:N.ps.length+i<states.length)(hs2:states.length<=4000)(ha:(N.us.getD i default).ac.length<=4294967290)(hq0:0<=states.getD (N.ps.length+i) 0)(hq1:states.getD (N.ps.length+i) 0<(N.us.getD i default).ac.length)(hL:2^60<=L):aA env L n 151 [.agg [.d (.ivs N.ps.length (sysD N.ps)),.d (.ivs N.us.length (gN N.us)),.d (.ivs N.start.length (ints N.start)),nI N.ls,nI N.kind,nI N.goal],.d (.ivs states.length (ints states)),nI i] []=some (.d (.bool (okN N states i)),[]):=by
 have g:=aXv hi
 have e1:IntKind.i64.wrap ((N.ps.length:Int)+i)=((N.ps.length+i:Nat):Int):=by
  rw[show(N.ps.length:Int)+i=((N.ps.length+i:Nat):Int) by omega];exact BL om om
 have hc1:((N.ps.length+i:Nat):Int)<states.length:=om;have hc2:(0:Int)<=((N.ps.length+i:Nat):Int):=om;have hi0:(0:Int)<=i:=om;have hi1:(i:Int)<N.us.length:=om;have hq3:(states.getD (N.ps.length+i) 0).toNat<(N.us.getD i default).ac.length:=om;unfold okN;generalize N.us.getD i default=a at *;generalize hz:N.ps.length+i=z at *;obtain _|n:=n;omega
 simp-implicitDefEqProofs (maxSteps:=9^7) (disch:=try exact Dz) only[↓DN,↓kAsg,↓kRet,UP,simprocAttr,NE,LA,Cg,Cl,hi0,hi1,g,e1,hc1,hc2,hq0,hq1,hq3,aRo,aMY,Tryz.f151]
theorem aJf{hq:H}{k:KA R}(hn:1<=n)(N:Net)(states:List Int)(i:Nat)(hi:i<N.us.length)(h1:N.ps.length<=1000)(h2:N.us.length<=1000)(hs:N.ps.length+i<states.length)(hs2:states.length<=4000)(ha:(N.us.getD i default).ac.length<=4294967290)(hq0:0<=states.getD (N.ps.length+i) 0)(hq1:states.getD (N.ps.length+i) 0<(N.us.getD i default).ac.length)(hL:2^60<=L):aX env (aA env L n) hq 151 [.agg [.d (.ivs N.ps.length (sysD N.ps)),.d (.ivs N.us.length (gN N.us)),.d (.ivs N.start.length (ints N.start)),nI N.ls,nI N.kind,nI N.goal],.d (.ivs states.length (ints states)),nI i] k=k (.d (.bool (okN N states i))) hq:=
 bS rfl (aSO hn N states i hi h1 h2 hs hs2 ha hq0 hq1 hL) rfl (.inl rfl)
theorem CP(hn:5<=n)(N:Net)(i:Nat)(q l:Int)(hi:N.ps.length<=i)(hi2:i-N.ps.length<N.us.length)(h1:N.ps.length<=1000)(h2:N.us.length<=1000)(u:Aut)(hu:N.us.getD (i-N.ps.length) default=u)(hs:aW u.nx)(hw:yJ (aB u.al).length u.nx)(hq0:0<=q)(hq1:q<u.nx.length)(h0:0<=l)(h6:l<6)(hL:2^60<=L):aA env L n 159 [.agg [.d (.ivs N.ps.length (sysD N.ps)),.d (.ivs N.us.length (gN N.us)),.d (.ivs N.start.length (ints N.start)),nI N.ls,nI N.kind,nI N.goal],nI i,nI q,nI l] []=some (.d (.ivs 1 (ints [goI u.al u.nx q l])),[]):=by
 have g:=aVz hi2;rw[hu]at g
 have e1:IntKind.i64.wrap ((i:Int)-N.ps.length)=((i-N.ps.length:Nat):Int):=by
  rw[show(i:Int)-N.ps.length=((i-N.ps.length:Nat):Int) by omega];exact BL om om
 have hc:(N.ps.length:Int)<=i:=om;have hc1:((i-N.ps.length:Nat):Int)<N.us.length:=om;have hc2:(0:Int)<=((i-N.ps.length:Nat):Int):=om;have kc_g:=@aIA L u.al q l u.nx u.ac.length (aD u.ac) hs hw hq0 hq1 h0 h6 hL;clear hu;generalize i-N.ps.length=z at *;obtain _|n:=n;omega
 simp-implicitDefEqProofs (maxSteps:=9^7) (disch:=try exact Dz) only[↓DN,↓kAsg,↓kRet,UP,simprocAttr,NE,Am,Cg,hc,hc1,hc2,g,e1,↓kc_g,aHN,WA,Tryz.f159]<;>rfl
end
end Ev
end Go.Proofs.YtppffbehejpglaaGreatDoor
