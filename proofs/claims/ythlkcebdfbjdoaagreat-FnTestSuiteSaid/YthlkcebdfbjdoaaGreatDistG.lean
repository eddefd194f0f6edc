/-
  A search that first measures how far each node is from a goal finds the first word too: plain laws.
-/
import Derived.Test.YthlkcebdfbjdoaaGreatLeast
set_option linter.unusedSimpArgs false
set_option linter.unusedVariables false
namespace Go.Proofs.YthlkcebdfbjdoaaGreat
namespace Ev
def H6(mvs:List (List Int))(dist:List Int)(d:Int):Bool:=mvs.any fun r=>r.any fun m=>decide (dist.getD m.toNat 0=d)
def dD(tab:List (List (List Int)))(d:Int):Nat->Nat->List Int×Bool->List Int×Bool
 |0,_,q=>q
 |j+1,i,q=>if q.1.getD i 0<0/\H6 (tab.getD i []) q.1 (d-1)=true then dD tab d j (i+1) (q.1.set i d,true)else dD tab d j (i+1) q
def c8(tab:List (List (List Int))):Nat->Int->List Int->List Int
 |0,_,dist=>dist
 |j+1,d,dist=>if(dD tab d dist.length 0 (dist,false)).2=true then c8 tab j (d+1) (dD tab d dist.length 0 (dist,false)).1 else(dD tab d dist.length 0 (dist,false)).1
def addC(dist:List Int)(d:Int):List Int->List Int->List Int
 | [],out=>out
 |m::ms,out=>if dist.getD m.toNat 0=d/\m∉out then addC dist d ms (out++[m])else addC dist d ms out
def bE(tab:List (List (List Int)))(dist:List Int)(k:Nat)(d:Int):List Int->List Int->List Int
 | [],out=>out
 |v::vs,out=>bE tab dist k d vs (addC dist d ((tab.getD v.toNat []).getD k []) out)
def OK(tab:List (List (List Int)))(dist:List Int)(at_:List Int)(d:Int):Nat->Nat->Nat×List Int
 |0,k=>(k,[])
 |j+1,k=>if bE tab dist k d at_ []=[]then OK tab dist at_ d j (k+1)else(k,bE tab dist k d at_ [])
def mM(tab:List (List (List Int)))(dist:List Int)(ls:List Int):Nat->List Int->List Int
 |0,_=>[]
 |d+1,at_=>ls.getD (OK tab dist at_ d (ls.length+1) 0).1 0::mM tab dist ls d (OK tab dist at_ d (ls.length+1) 0).2
def aB9(tab:List (List (List Int)))(ls:List Int)(dist:List Int)(s:Int):List Int×Bool:=
 if dist.getD s.toNat 0<0 then([],false)else(mM tab dist ls (dist.getD s.toNat 0).toNat [s],true)
section
variable{nx:Int->Int->List Int}{gl:Int->Bool}{ls:List Int}{aM:Nat}{tab:List (List (List Int))}
def Away(nx:Int->Int->List Int)(ls:List Int)(gl:Int->Bool)(v:Int)(d:Nat):Prop:=∃w g,w.length=d/\Path nx ls v w g/\gl g=true
def Far(nx:Int->Int->List Int)(ls:List Int)(gl:Int->Bool)(v:Int)(d:Nat):Prop:=Away nx ls gl v d/\∀e,e<d->¬Away nx ls gl v e
theorem SS{v:Int}:Away nx ls gl v 0↔gl v=true:=by
 constructor
 ·rintro⟨w,g,h1,h2,h3⟩;have:w=[]:=By.1 h1;subst this;rw[show v=g from h2];exact h3
 ·intro h;exact⟨[],v,rfl,rfl,h⟩
theorem JY{v:Int}{d:Nat}:Away nx ls gl v (d+1)↔∃l∈ls,∃m∈nx v l,Away nx ls gl m d:=by
 constructor
 ·rintro⟨w,g,h1,h2,h3⟩
  cases w with
  |nil=>simp at h1
  |cons l w=>
   obtain⟨hl,m,hm,hp⟩:=h2;exact⟨l,hl,m,hm,w,g,by simpa using h1,hp,h3⟩
 ·rintro⟨l,hl,m,hm,w,g,h1,h2,h3⟩;exact⟨l::w,g,by simp[h1],⟨hl,m,hm,h2⟩,h3⟩
theorem DW{v:Int}{d e:Nat}(h:Far nx ls gl v d)(k:Far nx ls gl v e):d=e:=by
 rcases Db d e with h1|h1|h1
 ·exact(k.2 d h1 h.1).elim
 ·exact h1
 ·exact(h.2 e h1 k.1).elim
theorem aN8{v:Int}:∀ {d:Nat},Away nx ls gl v d->∃e,e<=d/\Far nx ls gl v e:=by
 intro d
 induction d using Nat.strongRecOn with
 |_ d ih=>
  intro h
  by_cases hd:∃e,e<d/\Away nx ls gl v e
  ·obtain⟨e,h1,h2⟩:=hd;obtain⟨f,h3,h4⟩:=ih e h1 h2;exact⟨f,by omega,h4⟩
  ·exact⟨d,Ab _,h,fun e he ha=>hd ⟨e,he,ha⟩⟩
theorem MY{v:Int}{d:Nat}(h:Far nx ls gl v (d+1)):∃l∈ls,∃m∈nx v l,Far nx ls gl m d:=by
 obtain⟨l,hl,m,hm,ha⟩:=JY.1 h.1;refine⟨l,hl,m,hm,ha,fun e he h2=> ?_⟩;exact h.2 (e+1) om (JY.2 ⟨l,hl,m,hm,h2⟩)
structure Tab(nx:Int->Int->List Int)(ls:List Int)(aM:Nat)(tab:List (List (List Int))):Prop where
 len:tab.length=aM
 row:∀v:Nat,v<aM->tab.getD v []=ls.map (nx v)
 rng:∀v c:Int,0<=v->v<aM->c∈ls->∀m∈nx v c,0<=m/\m<aM
def aAE(nx:Int->Int->List Int)(ls:List Int)(gl:Int->Bool)(aM:Nat)(dist:List Int)(d:Nat):Prop:=
 dist.length=aM/\∀i:Nat,i<aM->(∃k:Nat,k<=d/\dist.getD i 0=k/\Far nx ls gl i k)\/(dist.getD i 0= -1/\∀e,e<=d->¬Away nx ls gl i e)
theorem Q6{dist:List Int}{d:Nat}(h:aAE nx ls gl aM dist d){v:Int}{k:Nat}(h0:0<=v)(h1:v<aM)(hk:k<=d):dist.getD v.toNat 0=k↔Far nx ls gl v k:=by
 have hv:((v.toNat:Nat):Int)=v:=om
 rcases h.2 v.toNat om with⟨e,h2,h3,h4⟩|⟨h3,h4⟩
 ·rw[hv]at h4
  constructor
  ·intro h5;have:e=k:=om;rw[<-this];exact h4
  ·intro h5;rw[h3,DW h4 h5]
 ·rw[hv]at h4
  constructor
  ·intro h5;omega
  ·intro h5;exact(h4 k hk h5.1).elim
theorem aNz(ht:Tab nx ls aM tab){dist old:List Int}{d:Nat}(hk:aAE nx ls gl aM old d){v:Nat}(hv:v<aM)(hs:∀i:Nat,i<aM->(dist.getD i 0=d↔old.getD i 0=d)):
  H6 (tab.getD v []) dist d=true↔∃l∈ls,∃m∈nx v l,Far nx ls gl m d:=by
 unfold H6;rw[ht.row v hv];simp only[List.any_map,List.any_eq_true,Function.comp,decide_eq_true_eq]
 constructor
 ·rintro⟨l,hl,m,hm,h⟩;have hr:=ht.rng v l om om hl m hm;rw[hs m.toNat om]at h;exact⟨l,hl,m,hm,(Q6 hk hr.1 hr.2 (Ab _)).1 h⟩
 ·rintro⟨l,hl,m,hm,h⟩;have hr:=ht.rng v l om om hl m hm;refine⟨l,hl,m,hm,?_⟩;rw[hs m.toNat om];exact(Q6 hk hr.1 hr.2 (Ab _)).2 h
theorem aEv{α:Type}{l:List α}{i j:Nat}{x d:α}(h:i<l.length):(l.set i x).getD j d=if i=j then x else l.getD j d:=by
 rw[Aa,Cg,Aa]
 by_cases hij:i=j
 ·subst hij;simp[h]
 ·simp[hij]
open Classical in
theorem aQq(ht:Tab nx ls aM tab){old:List Int}{d:Nat}(hk:aAE nx ls gl aM old d):∀(j i:Nat) (q:List Int×Bool),i+j=aM->q.1.length=aM->(∀x:Nat,x<aM->q.1.getD x 0=if x<i/\Far nx ls gl x (d+1)then((d+1:Nat):Int)else old.getD x 0)->(q.2=true↔∃x:Nat,x<i/\Far nx ls gl x (d+1))->
  (dD tab ((d+1:Nat):Int) j i q).1.length=aM/\(∀x:Nat,x<aM->(dD tab ((d+1:Nat):Int) j i q).1.getD x 0=if Far nx ls gl x (d+1)then((d+1:Nat):Int)else old.getD x 0)/\((dD tab ((d+1:Nat):Int) j i q).2=true↔∃x:Nat,x<aM/\Far nx ls gl x (d+1)):=by
 intro j
 induction j with
 |zero=>
  intro i q hi hl hq hb;obtain rfl:i=aM:=om;refine⟨hl,fun x hx=> ?_,hb⟩;have:=hq x hx;simp only[hx,true_and]at this;exact this
 |succ j ih=>
  intro i q hi hl hq hb;have hit:i<aM:=om;have e1:((d+1:Nat):Int)-1=(d:Int):=om
  have hqi:q.1.getD i 0=old.getD i 0:=by
   rw[hq i hit,if_neg om]
  have hnear:=aNz ht hk hit (dist:=q.1) fun x hx=>by
   rw[hq x hx]
   split
   ·rename_i h
    constructor
    ·intro h2;omega
    ·intro h2;have:=(Q6 hk (v:=(x:Int)) om om (Ab d)).1 (by simpa using h2);have:=DW h.2 this;omega
   ·exact Iff.rfl
  have hfar:(q.1.getD i 0<0/\H6 (tab.getD i []) q.1 (((d+1:Nat):Int)-1)=true)↔Far nx ls gl i (d+1):=by
   rw[e1,hnear,hqi]
   constructor
   ·rintro⟨h1,l,hl,m,hm,h2⟩
    rcases hk.2 i hit with⟨k,_,h3,_⟩|⟨_,h4⟩
    ·omega
    ·exact⟨JY.2 ⟨l,hl,m,hm,h2.1⟩,fun e he=>h4 e om⟩
   ·intro h;refine⟨?_,MY h⟩
    rcases hk.2 i hit with⟨k,h2,h3,h4⟩|⟨h3,_⟩
    ·have:=DW h h4;omega
    ·omega
  unfold dD
  by_cases hc:Far nx ls gl i (d+1)
  ·rw[if_pos (hfar.2 hc)];refine ih (i+1) _ om (by simpa using hl) (fun x hx=> ?_) ?_
   ·simp only;rw[aEv om]
    by_cases hix:i=x
    ·subst hix;rw[if_pos rfl,if_pos ⟨by omega,hc⟩]
    ·rw[if_neg hix,hq x hx]
     by_cases hxi:x<i
     ·simp only[hxi,show x<i+1 by omega,true_and]
     ·simp only[hxi,show ¬x<i+1 by omega,false_and,if_false]
   ·simp only[true_iff];exact⟨i,by omega,hc⟩
  ·rw[if_neg (fun h=>hc (hfar.1 h))];refine ih (i+1) q om hl (fun x hx=> ?_) ?_
   ·rw[hq x hx]
    by_cases hix:i=x
    ·subst hix;simp only[hc,and_false,if_false]
    ·by_cases hxi:x<i
     ·simp only[hxi,show x<i+1 by omega,true_and]
     ·simp only[hxi,show ¬x<i+1 by omega,false_and,if_false]
   ·rw[hb]
    constructor
    ·rintro⟨x,h1,h2⟩;exact⟨x,by omega,h2⟩
    ·rintro⟨x,h1,h2⟩
     by_cases hix:x=i
     ·subst hix;exact(hc h2).elim
     ·exact⟨x,by omega,h2⟩
def Full(nx:Int->Int->List Int)(ls:List Int)(gl:Int->Bool)(aM:Nat)(dist:List Int):Prop:=
 dist.length=aM/\∀i:Nat,i<aM->(∃k:Nat,dist.getD i 0=k/\Far nx ls gl i k)\/(dist.getD i 0= -1/\∀e,¬Away nx ls gl i e)
theorem PS:∀ {l:List Int} {i:Nat} {x:Int},l.getD i 0<0->i<l.length->0<=x->(l.set i x).countP (·<0)+1=l.countP (·<0)
 | [],i,x,h,hi,hx=>by simp at hi
 |a::l,0,x,h,hi,hx=>by
  simp at h;simp only[Cd,Dt];simp[h,show ¬x<0 by omega]
 |a::l,i+1,x,h,hi,hx=>by
  have ih:=PS (l:=l) (i:=i) (x:=x) (by simpa using h) (by simpa using hi) hx;simp only[Bn,Dt];omega
theorem VO{d:Int}(hd:0<=d):∀(j i:Nat) (q:List Int×Bool),i+j=q.1.length->(dD tab d j i q).1.countP (·<0)<=q.1.countP (·<0)/\((dD tab d j i q).2=true->q.2=true\/(dD tab d j i q).1.countP (·<0)<q.1.countP (·<0))
 |0,i,q,h=>⟨Ab _,fun h=>.inl h⟩
 |j+1,i,q,h=>by
  unfold dD
  split
  ·rename_i hc
   have h1:=PS (l:=q.1) (i:=i) (x:=d) hc.1 om hd;obtain⟨h2,h3⟩:=VO hd j (i+1) (q.1.set i d,true) (by simp;omega);simp only at h2;exact⟨by omega,fun _=>.inr om⟩
  ·exact VO hd j (i+1) q om
open Classical in
theorem aLg(ht:Tab nx ls aM tab):∀(j d:Nat) (dist:List Int),aAE nx ls gl aM dist d->dist.countP (·<0)<j->Full nx ls gl aM (c8 tab j ((d+1:Nat):Int) dist)
 |0,d,dist,hk,hj=>by omega
 |j+1,d,dist,hk,hj=>by
  have h0:∀x:Nat,x<aM->dist.getD x 0=if x<0/\Far nx ls gl x (d+1)then((d+1:Nat):Int)else dist.getD x 0:=fun x hx=>by
   rw[if_neg om]
  obtain⟨h1,h2,h3⟩:=aQq ht hk aM 0 (dist,false) om hk.1 h0 sm;have hc:=VO (tab:=tab) (d:=((d+1:Nat):Int)) om dist.length 0 (dist,false) sm;unfold c8;rw[<-hk.1]at h1 h2 h3;generalize dD tab ((d+1:Nat):Int) dist.length 0 (dist,false)=r at *;rw[hk.1]at h1 h2 h3
  split
  ·rename_i hb
   have hlt:=hc.2 hb;simp only[Ak,false_or]at hlt;refine aLg ht j (d+1) r.1 ⟨h1,fun i hi=> ?_⟩ om;rw[h2 i hi]
   split
   ·rename_i hf
    exact .inl ⟨d+1,Ab _,rfl,hf⟩
   ·rename_i hf
    rcases hk.2 i hi with⟨k,g1,g2,g3⟩|⟨g1,g2⟩
    ·exact .inl ⟨k,by omega,g2,g3⟩
    ·refine .inr ⟨g1,fun e he ha=> ?_⟩
     by_cases hed:e=d+1
     ·subst hed;exact hf ⟨ha,fun e' he'=>g2 e' om⟩
     ·exact g2 e om ha
  ·rename_i hb
   have hno:∀i:Nat,i<aM->¬Far nx ls gl i (d+1):=fun i hi hf=>hb (h3.2 ⟨i,hi,hf⟩)
   have hnone:∀e:Nat,∀i:Nat,i<aM->d<e->¬Far nx ls gl i e:=by
    intro e
    induction e with
    |zero=>intro i hi he;omega
    |succ e ih=>
     intro i hi he hf
     by_cases hed:e=d
     ·subst hed;exact hno i hi hf
     ·obtain⟨l,hl,m,hm,hfm⟩:=MY hf;have hr:=ht.rng i l om om hl m hm;refine ih m.toNat om om ?_;rw[show((m.toNat:Nat):Int)=m by omega];exact hfm
   refine⟨h1,fun i hi=> ?_⟩;rw[h2 i hi,if_neg (hno i hi)]
   rcases hk.2 i hi with⟨k,g1,g2,g3⟩|⟨g1,g2⟩
   ·exact .inl ⟨k,g2,g3⟩
   ·refine .inr ⟨g1,fun e ha=> ?_⟩;obtain⟨f,h4,h5⟩:=aN8 ha
    by_cases hfd:f<=d
    ·exact g2 f hfd h5.1
    ·exact hnone f i hi om h5
theorem ZF{dist:List Int}{d:Int}:∀(ms out:List Int) (x:Int),x∈addC dist d ms out↔x∈out\/(x∈ms/\dist.getD x.toNat 0=d)
 | [],out,x=>by simp[addC]
 |m::ms,out,x=>by
  unfold addC
  split
  ·rename_i h
   rw[ZF ms,Al,Bk,At]
   constructor
   ·rintro((k|rfl)|k)
    ·exact .inl k
    ·exact .inr ⟨.inl rfl,h.1⟩
    ·exact .inr ⟨.inr k.1,k.2⟩
   ·rintro(k|⟨rfl|k,k2⟩)
    ·exact .inl (.inl k)
    ·exact .inl (.inr rfl)
    ·exact .inr ⟨k,k2⟩
  ·rename_i h
   rw[ZF ms,At]
   constructor
   ·rintro(k|k)
    ·exact .inl k
    ·exact .inr ⟨.inr k.1,k.2⟩
   ·rintro(k|⟨rfl|k,k2⟩)
    ·exact .inl k
    ·by_cases hx:x∈out
     ·exact .inl hx
     ·exact(h ⟨k2,hx⟩).elim
    ·exact .inr ⟨k,k2⟩
theorem OA{dist:List Int}{k:Nat}{d:Int}:∀(vs out:List Int) (x:Int),x∈bE tab dist k d vs out↔x∈out\/(∃v∈vs,x∈(tab.getD v.toNat []).getD k []/\dist.getD x.toNat 0=d)
 | [],out,x=>by simp[bE]
 |v::vs,out,x=>by
  unfold bE;rw[OA vs,ZF]
  constructor
  ·rintro((h|h)|⟨u,h1,h2⟩)
   ·exact .inl h
   ·exact .inr ⟨v,Bi,h⟩
   ·exact .inr ⟨u,Be _ h1,h2⟩
  ·rintro(h|⟨u,h1,h2⟩)
   ·exact .inl (.inl h)
   ·rcases At.1 h1 with rfl|h1
    ·exact .inl (.inr h2)
    ·exact .inr ⟨u,h1,h2⟩
theorem aCC{dist at_:List Int}{d:Int}:∀(j k:Nat),(∃e,k<=e/\e<k+j/\bE tab dist e d at_ []≠[])->∃e,k<=e/\e<k+j/\OK tab dist at_ d j k=(e,bE tab dist e d at_ [])/\bE tab dist e d at_ []≠[]/\∀f,k<=f->f<e->bE tab dist f d at_ []=[]
 |0,k,⟨e,h1,h2,_⟩=>by omega
 |j+1,k,⟨e,h1,h2,h3⟩=>by
  unfold OK
  split
  ·rename_i hc
   have hek:e≠k:=fun h=>h3 (h▸hc);obtain⟨f,g1,g2,g3,g4,g5⟩:=aCC j (k+1) ⟨e,by omega,by omega,h3⟩;refine⟨f,by omega,by omega,g3,g4,fun x hx1 hx2=> ?_⟩
   by_cases hxk:x=k
   ·subst hxk;exact hc
   ·exact g5 x om hx2
  ·rename_i hc
   exact⟨k,Ab _,by omega,rfl,hc,fun f h h'=>by omega⟩
theorem FM{dist:List Int}(h:Full nx ls gl aM dist){v:Int}{k:Nat}(h0:0<=v)(h1:v<aM):dist.getD v.toNat 0=k↔Far nx ls gl v k:=by
 have hv:((v.toNat:Nat):Int)=v:=om
 rcases h.2 v.toNat om with⟨e,h3,h4⟩|⟨h3,h4⟩
 ·rw[hv]at h4
  constructor
  ·intro h5;have:e=k:=om;rw[<-this];exact h4
  ·intro h5;rw[h3,DW h4 h5]
 ·rw[hv]at h4
  constructor
  ·intro h5;omega
  ·intro h5;exact(h4 k h5.1).elim
theorem UY(ht:Tab nx ls aM tab){v:Int}{k:Nat}(h0:0<=v)(h1:v<aM)(hk:k<ls.length):(tab.getD v.toNat []).getD k []=nx v (ls.getD k 0):=by
 rw[ht.row v.toNat om,show((v.toNat:Nat):Int)=v by omega,Aa,Bd,Ae hk,Aa,Ae hk];rfl
theorem aC3:∀ {l:List Int} {i j:Nat},l.Pairwise (·<·)->i<j->j<l.length->l.getD i 0<l.getD j 0
 | [],i,j,_,_,h=>by simp at h
 |a::l,0,j+1,h,_,hj=>by
  have hj':j<l.length:=by simpa using hj
  have:=(List.pairwise_cons.1 h).1 (l.getD j 0) (by rw[Aa,Ae hj'];exact Az hj')
  simpa using this
 |a::l,i+1,j+1,h,hij,hj=>by
  have:=aC3 (List.pairwise_cons.1 h).2 (i:=i) (j:=j) om (by simpa using hj)
  simpa using this
theorem aMu(ht:Tab nx ls aM tab){dist:List Int}(hf:Full nx ls gl aM dist)(ha:ls.Pairwise (·<·)):∀(d:Nat) (at_:List Int),(∀v∈at_,(0<=v/\v<aM)/\Far nx ls gl v d)->at_≠[]->
  (mM tab dist ls d at_).length=d/\(∃v∈at_,∃g,Path nx ls v (mM tab dist ls d at_) g/\gl g=true)/\∀w v g,v∈at_->w.length=d->Path nx ls v w g->gl g=true->¬pK w (mM tab dist ls d at_):=by
 intro d
 induction d with
 |zero=>
  intro at_ hat hne;refine⟨rfl,?_,fun w v g _ hw _ _ h=> ?_⟩
  ·cases at_ with
   |nil=>exact(hne rfl).elim
   |cons v vs=>
    have:=(hat v Bi).2;exact⟨v,Bi,v,rfl,SS.1 this.1⟩
  ·have:w=[]:=By.1 hw;subst this;exact h
 |succ d ih=>
  intro at_ hat hne
  have hmem:∀k x,k<ls.length->(x∈bE tab dist k d at_ []↔∃v∈at_,x∈nx v (ls.getD k 0)/\Far nx ls gl x d):=by
   intro k x hk;rw[OA];simp only[Bo,false_or]
   constructor
   ·rintro⟨v,hv,h1,h2⟩;have hr:=(hat v hv).1;rw[UY ht hr.1 hr.2 hk]at h1;have hl:ls.getD k 0∈ls:=by rw[Aa,Ae hk];exact Az hk
    have hx:=ht.rng v _ hr.1 hr.2 hl x h1;exact⟨v,hv,h1,(FM hf hx.1 hx.2).1 h2⟩
   ·rintro⟨v,hv,h1,h2⟩;have hr:=(hat v hv).1;have hl:ls.getD k 0∈ls:=by rw[Aa,Ae hk];exact Az hk
    have hx:=ht.rng v _ hr.1 hr.2 hl x h1;exact⟨v,hv,by rw[UY ht hr.1 hr.2 hk];exact h1,(FM hf hx.1 hx.2).2 h2⟩
  have hidx:∀l∈ls,∃k,k<ls.length/\ls.getD k 0=l:=by
   intro l hl;obtain⟨k,hk,h⟩:=Ck hl;exact⟨k,hk,by rw[Aa,Ae hk,h];rfl⟩
  obtain⟨v0,hv0⟩:∃v,v∈at_:=by
   cases at_ with
   |nil=>exact(hne rfl).elim
   |cons v vs=>exact⟨v,Bi⟩
  obtain⟨l0,hl0,m0,hm0,hfm0⟩:=MY (hat v0 hv0).2;obtain⟨k0,hk0,e0⟩:=hidx l0 hl0
  have hne0:bE tab dist k0 d at_ []≠[]:=by
   intro h;have:=(hmem k0 m0 hk0).2 ⟨v0,hv0,by rw[e0];exact hm0,hfm0⟩;rw[h]at this;cases this
  obtain⟨e,_,h2,h3,h4,h5⟩:=aCC (tab:=tab) (dist:=dist) (at_:=at_) (d:=d) (ls.length+1) 0 ⟨k0,by omega,by omega,hne0⟩
  have hel:e<ls.length:=by
   apply Nat.lt_of_not_le;intro h
   by_cases he0:k0<e
   ·exact hne0 (h5 k0 om he0)
   ·omega
  have hel2:ls.getD e 0∈ls:=by rw[Aa,Ae hel];exact Az hel
  unfold mM;rw[h3];simp only
  have hat2:∀x∈bE tab dist e d at_ [],(0<=x/\x<aM)/\Far nx ls gl x d:=by
   intro x hx;obtain⟨v,hv,g1,g2⟩:=(hmem e x hel).1 hx;have hr:=(hat v hv).1;exact⟨ht.rng v _ hr.1 hr.2 hel2 x g1,g2⟩
  obtain⟨i1,⟨m,hm,g,i2,i3⟩,i4⟩:=ih _ hat2 h4;refine⟨by simp[i1],?_,?_⟩
  ·obtain⟨v,hv,g1,g2⟩:=(hmem e m hel).1 hm;exact⟨v,hv,g,⟨hel2,m,g1,i2⟩,i3⟩
  ·intro w v g' hv hw hp hg hlt
   cases w with
   |nil=>simp at hw
   |cons l w=>
    obtain⟨hl,m',hm',hp'⟩:=hp
    have hfm:Far nx ls gl m' d:=by
     refine⟨⟨w,g',by simpa using hw,hp',hg⟩,fun x hx hax=> ?_⟩;exact(hat v hv).2.2 (x+1) om (JY.2 ⟨l,hl,m',hm',hax⟩)
    obtain⟨k,hk,ek⟩:=hidx l hl;have hmc:m'∈bE tab dist k d at_ []:=(hmem k m' hk).2 ⟨v,hv,by rw[ek];exact hm',hfm⟩
    have hke:e<=k:=by
     apply Nat.le_of_not_lt;intro h;rw[h5 k om h]at hmc;cases hmc
    rcases hlt with h|⟨h,h'⟩
    ·by_cases hek:e=k
     ·subst hek;omega
     ·have:=aC3 ha (i:=e) (j:=k) om hk;omega
    ·have:e=k:=by
      apply Nat.le_antisymm hke;apply Nat.le_of_not_lt;intro hc;have:=aC3 ha (i:=e) (j:=k) hc hk;omega
     subst this;exact i4 w m' g' hmc (by simpa using hw) hp' hg h'
theorem aNw(ht:Tab nx ls aM tab){dist:List Int}(hf:Full nx ls gl aM dist)(ha:ls.Pairwise (·<·)){s:Int}(h0:0<=s)(h1:s<aM):EG (Hits nx ls [s] gl) (aB9 tab ls dist s):=by
 have hv:((s.toNat:Nat):Int)=s:=om;unfold aB9
 rcases hf.2 s.toNat om with⟨k,h2,h3⟩|⟨h2,h3⟩
 ·rw[hv]at h3;rw[h2,if_neg om,Ct];obtain⟨i1,⟨v,hv1,g,i2,i3⟩,i4⟩:=aMu ht hf ha k [s] (fun v hv=>by simp at hv;subst hv;exact⟨⟨h0,h1⟩,h3⟩) sm;have:v=s:=by simpa using hv1
  subst this;refine .inl ⟨rfl,⟨g,⟨v,by simp,i2⟩,i3⟩,?_⟩;rintro x ⟨u,⟨y,hy,hp⟩,hg⟩ hlt;have:y=v:=by simpa using hy
  subst this;have hlt':slt x (mM tab dist ls k [y]):=hlt
  rcases hlt' with h|⟨h,h'⟩
  ·exact h3.2 x.length om ⟨x,u,rfl,hp,hg⟩
  ·exact i4 x y u sm om hp hg h'
 ·rw[hv]at h3;rw[h2,if_pos om];refine .inr ⟨rfl,?_⟩;rintro w ⟨u,⟨y,hy,hp⟩,hg⟩;have:y=s:=by simpa using hy
  subst this;exact h3 w.length ⟨w,u,rfl,hp,hg⟩
end
end Ev
end Go.Proofs.YthlkcebdfbjdoaaGreat
