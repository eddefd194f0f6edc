/-
  A search that first measures how far each node is from a goal finds the first word too: plain laws.
-/
import Derived.Test.YtahbdkmimmnadaaGreatDoorLeast
set_option linter.unusedSimpArgs false
set_option linter.unusedVariables false
set_option linter.unusedSectionVars false
set_option maxRecDepth 8000
set_option maxHeartbeats 4000000
namespace Go.Proofs.YtahbdkmimmnadaaGreatDoor
namespace Ev
section
def KG(mvs:List (List Int))(dist:List Int)(d:Int):Bool:=mvs.any fun r=>r.any fun m=>decide (dist.getD m.toNat 0=d)
def dQ(tab:List (List (List Int)))(d:Int):Nat->Nat->List Int×Bool->List Int×Bool
 |0,_,q=>q
 |j+1,i,q=>if q.1.getD i 0<0/\KG (tab.getD i []) q.1 (d-1)=true then dQ tab d j (i+1) (q.1.set i d,true)else dQ tab d j (i+1) q
def dJ(tab:List (List (List Int))):Nat->Int->List Int->List Int
 |0,_,dist=>dist
 |j+1,d,dist=>if(dQ tab d dist.length 0 (dist,false)).2=true then dJ tab j (d+1) (dQ tab d dist.length 0 (dist,false)).1 else(dQ tab d dist.length 0 (dist,false)).1
def addC(dist:List Int)(d:Int):List Int->List Int->List Int
 | [],out=>out
 |m::ms,out=>if dist.getD m.toNat 0=d/\m∉out then addC dist d ms (out++[m])else addC dist d ms out
def bF(tab:List (List (List Int)))(dist:List Int)(k:Nat)(d:Int):List Int->List Int->List Int
 | [],out=>out
 |v::vs,out=>bF tab dist k d vs (addC dist d ((tab.getD v.toNat []).getD k []) out)
def P5(tab:List (List (List Int)))(dist:List Int)(at_:List Int)(d:Int):Nat->Nat->Nat×List Int
 |0,k=>(k,[])
 |j+1,k=>if bF tab dist k d at_ []=[]then P5 tab dist at_ d j (k+1)else(k,bF tab dist k d at_ [])
def nD(tab:List (List (List Int)))(dist:List Int)(ls:List Int):Nat->List Int->List Int
 |0,_=>[]
 |d+1,at_=>ls.getD (P5 tab dist at_ d (ls.length+1) 0).1 0::nD tab dist ls d (P5 tab dist at_ d (ls.length+1) 0).2
def aCw(tab:List (List (List Int)))(ls:List Int)(dist:List Int)(s:Int):List Int×Bool:=
 if dist.getD s.toNat 0<0 then([],false)else(nD tab dist ls (dist.getD s.toNat 0).toNat [s],true)
section
variable{nx:Int->Int->List Int}{gl:Int->Bool}{ls:List Int}{aL:Nat}{tab:List (List (List Int))}
def Away(nx:Int->Int->List Int)(ls:List Int)(gl:Int->Bool)(v:Int)(d:Nat):Prop:=∃w g,w.length=d/\Path nx ls v w g/\gl g=true
def Far(nx:Int->Int->List Int)(ls:List Int)(gl:Int->Bool)(v:Int)(d:Nat):Prop:=Away nx ls gl v d/\∀e,e<d->¬Away nx ls gl v e
theorem TN{v:Int}:Away nx ls gl v 0↔gl v=true:=by
 constructor
 ·rintro⟨w,g,h1,h2,h3⟩;have:w=[]:=Bs.1 h1;subst this;rw[show v=g from h2];exact h3
 ·intro h;exact⟨[],v,rfl,rfl,h⟩
theorem KO{v:Int}{d:Nat}:Away nx ls gl v (d+1)↔∃l∈ls,∃m∈nx v l,Away nx ls gl m d:=by
 constructor
 ·rintro⟨w,g,h1,h2,h3⟩
  cases w with
  |nil=>simp at h1
  |cons l w=>
   obtain⟨hl,m,hm,hp⟩:=h2;exact⟨l,hl,m,hm,w,g,by simpa using h1,hp,h3⟩
 ·rintro⟨l,hl,m,hm,w,g,h1,h2,h3⟩;exact⟨l::w,g,by simp[h1],⟨hl,m,hm,h2⟩,h3⟩
theorem GA{v:Int}{d e:Nat}(h:Far nx ls gl v d)(k:Far nx ls gl v e):d=e:=by
 rcases Nat.lt_trichotomy d e with h1|h1|h1
 ·exact(k.2 d h1 h.1).elim
 ·exact h1
 ·exact(h.2 e h1 k.1).elim
theorem aPv{v:Int}:∀ {d:Nat},Away nx ls gl v d->∃e,e<=d/\Far nx ls gl v e:=by
 intro d
 induction d using Nat.strongRecOn with
 |_ d ih=>
  intro h
  by_cases hd:∃e,e<d/\Away nx ls gl v e
  ·obtain⟨e,h1,h2⟩:=hd;obtain⟨f,h3,h4⟩:=ih e h1 h2;exact⟨f,by omega,h4⟩
  ·exact⟨d,Ad _,h,fun e he ha=>hd ⟨e,he,ha⟩⟩
theorem QF{v:Int}{d:Nat}(h:Far nx ls gl v (d+1)):∃l∈ls,∃m∈nx v l,Far nx ls gl m d:=by
 obtain⟨l,hl,m,hm,ha⟩:=KO.1 h.1;refine⟨l,hl,m,hm,ha,fun e he h2=> ?_⟩;exact h.2 (e+1) om (KO.2 ⟨l,hl,m,hm,h2⟩)
structure Tab(nx:Int->Int->List Int)(ls:List Int)(aL:Nat)(tab:List (List (List Int))):Prop where
 len:tab.length=aL
 row:∀v:Nat,v<aL->tab.getD v []=ls.map (nx v)
 rng:∀v c:Int,0<=v->v<aL->c∈ls->∀m∈nx v c,0<=m/\m<aL
def aB0(nx:Int->Int->List Int)(ls:List Int)(gl:Int->Bool)(aL:Nat)(dist:List Int)(d:Nat):Prop:=
 dist.length=aL/\∀i:Nat,i<aL->(∃k:Nat,k<=d/\dist.getD i 0=k/\Far nx ls gl i k)\/(dist.getD i 0= -1/\∀e,e<=d->¬Away nx ls gl i e)
theorem S9{dist:List Int}{d:Nat}(h:aB0 nx ls gl aL dist d){v:Int}{k:Nat}(h0:0<=v)(h1:v<aL)(hk:k<=d):dist.getD v.toNat 0=k↔Far nx ls gl v k:=by
 have hv:((v.toNat:Nat):Int)=v:=om
 rcases h.2 v.toNat om with⟨e,h2,h3,h4⟩|⟨h3,h4⟩
 ·rw[hv]at h4
  constructor
  ·intro h5;have:e=k:=om;rw[<-this];exact h4
  ·intro h5;rw[h3,GA h4 h5]
 ·rw[hv]at h4
  constructor
  ·intro h5;omega
  ·intro h5;exact(h4 k hk h5.1).elim
theorem aP5(ht:Tab nx ls aL tab){dist old:List Int}{d:Nat}(hk:aB0 nx ls gl aL old d){v:Nat}(hv:v<aL)(hs:∀i:Nat,i<aL->(dist.getD i 0=d↔old.getD i 0=d)):
  KG (tab.getD v []) dist d=true↔∃l∈ls,∃m∈nx v l,Far nx ls gl m d:=by
 unfold KG;rw[ht.row v hv];simp only[List.any_map,List.any_eq_true,Function.comp,decide_eq_true_eq]
 constructor
 ·rintro⟨l,hl,m,hm,h⟩;have hr:=ht.rng v l om om hl m hm;rw[hs m.toNat om]at h;exact⟨l,hl,m,hm,(S9 hk hr.1 hr.2 (Ad _)).1 h⟩
 ·rintro⟨l,hl,m,hm,h⟩;have hr:=ht.rng v l om om hl m hm;refine⟨l,hl,m,hm,?_⟩;rw[hs m.toNat om];exact(S9 hk hr.1 hr.2 (Ad _)).2 h
theorem aEG{α:Type}{l:List α}{i j:Nat}{x d:α}(h:i<l.length):(l.set i x).getD j d=if i=j then x else l.getD j d:=by
 rw[Aa,Cu,Aa]
 by_cases hij:i=j
 ·subst hij;simp[h]
 ·simp[hij]
open Classical in
theorem aSl(ht:Tab nx ls aL tab){old:List Int}{d:Nat}(hk:aB0 nx ls gl aL old d):∀(j i:Nat) (q:List Int×Bool),i+j=aL->q.1.length=aL->(∀x:Nat,x<aL->q.1.getD x 0=if x<i/\Far nx ls gl x (d+1)then((d+1:Nat):Int)else old.getD x 0)->(q.2=true↔∃x:Nat,x<i/\Far nx ls gl x (d+1))->
  (dQ tab ((d+1:Nat):Int) j i q).1.length=aL/\(∀x:Nat,x<aL->(dQ tab ((d+1:Nat):Int) j i q).1.getD x 0=if Far nx ls gl x (d+1)then((d+1:Nat):Int)else old.getD x 0)/\((dQ tab ((d+1:Nat):Int) j i q).2=true↔∃x:Nat,x<aL/\Far nx ls gl x (d+1)):=by
 intro j
 induction j with
 |zero=>
  intro i q hi hl hq hb;obtain rfl:i=aL:=om;refine⟨hl,fun x hx=> ?_,hb⟩;have:=hq x hx;simp only[hx,true_and]at this;exact this
 |succ j ih=>
  intro i q hi hl hq hb;have hit:i<aL:=om;have e1:((d+1:Nat):Int)-1=(d:Int):=om
  have hqi:q.1.getD i 0=old.getD i 0:=by
   rw[hq i hit,if_neg om]
  have hnear:=aP5 ht hk hit (dist:=q.1) fun x hx=>by
   rw[hq x hx]
   split
   ·rename_i h
    constructor
    ·intro h2;omega
    ·intro h2;have:=(S9 hk (v:=(x:Int)) om om (Ad d)).1 (by simpa using h2);have:=GA h.2 this;omega
   ·exact Iff.rfl
  have hfar:(q.1.getD i 0<0/\KG (tab.getD i []) q.1 (((d+1:Nat):Int)-1)=true)↔Far nx ls gl i (d+1):=by
   rw[e1,hnear,hqi]
   constructor
   ·rintro⟨h1,l,hl,m,hm,h2⟩
    rcases hk.2 i hit with⟨k,_,h3,_⟩|⟨_,h4⟩
    ·omega
    ·exact⟨KO.2 ⟨l,hl,m,hm,h2.1⟩,fun e he=>h4 e om⟩
   ·intro h;refine⟨?_,QF h⟩
    rcases hk.2 i hit with⟨k,h2,h3,h4⟩|⟨h3,_⟩
    ·have:=GA h h4;omega
    ·omega
  unfold dQ
  by_cases hc:Far nx ls gl i (d+1)
  ·rw[if_pos (hfar.2 hc)];refine ih (i+1) _ om (by simpa using hl) (fun x hx=> ?_) ?_
   ·simp only;rw[aEG om]
    by_cases hix:i=x
    ·subst hix;rw[if_pos rfl,if_pos ⟨by omega,hc⟩]
    ·rw[if_neg hix,hq x hx]
     by_cases hxi:x<i
     ·simp only[hxi,show x<i+1 by omega,true_and]
     ·simp only[hxi,show ¬x<i+1 by omega,false_and,if_false]
   ·simp only[true_iff];exact⟨i,by omega,hc⟩
  ·rw[if_neg (fun h=>hc (hfar.1 h))];refine ih (i+1) q om hl (fun x hx=> ?_) ?_
   ·rw[hq x hx]
    by_cases hix:i=x
    ·subst hix;simp only[hc,and_false,if_false]
    ·by_cases hxi:x<i
     ·simp only[hxi,show x<i+1 by omega,true_and]
     ·simp only[hxi,show ¬x<i+1 by omega,false_and,if_false]
   ·rw[hb]
    constructor
    ·rintro⟨x,h1,h2⟩;exact⟨x,by omega,h2⟩
    ·rintro⟨x,h1,h2⟩
     by_cases hix:x=i
     ·subst hix;exact(hc h2).elim
     ·exact⟨x,by omega,h2⟩
def Full(nx:Int->Int->List Int)(ls:List Int)(gl:Int->Bool)(aL:Nat)(dist:List Int):Prop:=
 dist.length=aL/\∀i:Nat,i<aL->(∃k:Nat,dist.getD i 0=k/\Far nx ls gl i k)\/(dist.getD i 0= -1/\∀e,¬Away nx ls gl i e)
theorem Q7:∀ {l:List Int} {i:Nat} {x:Int},l.getD i 0<0->i<l.length->0<=x->(l.set i x).countP (·<0)+1=l.countP (·<0)
 | [],i,x,h,hi,hx=>by simp at hi
 |a::l,0,x,h,hi,hx=>by
  simp at h;simp only[Ce,List.countP_cons];simp[h,show ¬x<0 by omega]
 |a::l,i+1,x,h,hi,hx=>by
  have ih:=Q7 (l:=l) (i:=i) (x:=x) (by simpa using h) (by simpa using hi) hx;simp only[By,List.countP_cons];omega
theorem XY{d:Int}(hd:0<=d):∀(j i:Nat) (q:List Int×Bool),i+j=q.1.length->(dQ tab d j i q).1.countP (·<0)<=q.1.countP (·<0)/\((dQ tab d j i q).2=true->q.2=true\/(dQ tab d j i q).1.countP (·<0)<q.1.countP (·<0))
 |0,i,q,h=>⟨Ad _,fun h=>.inl h⟩
 |j+1,i,q,h=>by
  unfold dQ
  split
  ·rename_i hc
   have h1:=Q7 (l:=q.1) (i:=i) (x:=d) hc.1 om hd;obtain⟨h2,h3⟩:=XY hd j (i+1) (q.1.set i d,true) (by simp;omega);simp only at h2;exact⟨by omega,fun _=>.inr om⟩
  ·exact XY hd j (i+1) q om
open Classical in
theorem aNn(ht:Tab nx ls aL tab):∀(j d:Nat) (dist:List Int),aB0 nx ls gl aL dist d->dist.countP (·<0)<j->Full nx ls gl aL (dJ tab j ((d+1:Nat):Int) dist)
 |0,d,dist,hk,hj=>by omega
 |j+1,d,dist,hk,hj=>by
  have h0:∀x:Nat,x<aL->dist.getD x 0=if x<0/\Far nx ls gl x (d+1)then((d+1:Nat):Int)else dist.getD x 0:=fun x hx=>by
   rw[if_neg om]
  obtain⟨h1,h2,h3⟩:=aSl ht hk aL 0 (dist,false) om hk.1 h0 sm;have hc:=XY (tab:=tab) (d:=((d+1:Nat):Int)) om dist.length 0 (dist,false) sm;unfold dJ;rw[<-hk.1]at h1 h2 h3;generalize dQ tab ((d+1:Nat):Int) dist.length 0 (dist,false)=r at *;rw[hk.1]at h1 h2 h3
  split
  ·rename_i hb
   have hlt:=hc.2 hb;simp only[Ap,false_or]at hlt;refine aNn ht j (d+1) r.1 ⟨h1,fun i hi=> ?_⟩ om;rw[h2 i hi]
   split
   ·rename_i hf
    exact .inl ⟨d+1,Ad _,rfl,hf⟩
   ·rename_i hf
    rcases hk.2 i hi with⟨k,g1,g2,g3⟩|⟨g1,g2⟩
    ·exact .inl ⟨k,by omega,g2,g3⟩
    ·refine .inr ⟨g1,fun e he ha=> ?_⟩
     by_cases hed:e=d+1
     ·subst hed;exact hf ⟨ha,fun e' he'=>g2 e' om⟩
     ·exact g2 e om ha
  ·rename_i hb
   have hno:∀i:Nat,i<aL->¬Far nx ls gl i (d+1):=fun i hi hf=>hb (h3.2 ⟨i,hi,hf⟩)
   have hnone:∀e:Nat,∀i:Nat,i<aL->d<e->¬Far nx ls gl i e:=by
    intro e
    induction e with
    |zero=>intro i hi he;omega
    |succ e ih=>
     intro i hi he hf
     by_cases hed:e=d
     ·subst hed;exact hno i hi hf
     ·obtain⟨l,hl,m,hm,hfm⟩:=QF hf;have hr:=ht.rng i l om om hl m hm;refine ih m.toNat om om ?_;rw[show((m.toNat:Nat):Int)=m by omega];exact hfm
   refine⟨h1,fun i hi=> ?_⟩;rw[h2 i hi,if_neg (hno i hi)]
   rcases hk.2 i hi with⟨k,g1,g2,g3⟩|⟨g1,g2⟩
   ·exact .inl ⟨k,g2,g3⟩
   ·refine .inr ⟨g1,fun e ha=> ?_⟩;obtain⟨f,h4,h5⟩:=aPv ha
    by_cases hfd:f<=d
    ·exact g2 f hfd h5.1
    ·exact hnone f i hi om h5
theorem aAM{dist:List Int}{d:Int}:∀(ms out:List Int) (x:Int),x∈addC dist d ms out↔x∈out\/(x∈ms/\dist.getD x.toNat 0=d)
 | [],out,x=>by simp[addC]
 |m::ms,out,x=>by
  unfold addC
  split
  ·rename_i h
   rw[aAM ms,Aq,Bi,Au]
   constructor
   ·rintro((k|rfl)|k)
    ·exact .inl k
    ·exact .inr ⟨.inl rfl,h.1⟩
    ·exact .inr ⟨.inr k.1,k.2⟩
   ·rintro(k|⟨rfl|k,k2⟩)
    ·exact .inl (.inl k)
    ·exact .inl (.inr rfl)
    ·exact .inr ⟨k,k2⟩
  ·rename_i h
   rw[aAM ms,Au]
   constructor
   ·rintro(k|k)
    ·exact .inl k
    ·exact .inr ⟨.inr k.1,k.2⟩
   ·rintro(k|⟨rfl|k,k2⟩)
    ·exact .inl k
    ·by_cases hx:x∈out
     ·exact .inl hx
     ·exact(h ⟨k2,hx⟩).elim
    ·exact .inr ⟨k,k2⟩
theorem QG{dist:List Int}{k:Nat}{d:Int}:∀(vs out:List Int) (x:Int),x∈bF tab dist k d vs out↔x∈out\/(∃v∈vs,x∈(tab.getD v.toNat []).getD k []/\dist.getD x.toNat 0=d)
 | [],out,x=>by simp[bF]
 |v::vs,out,x=>by
  unfold bF;rw[QG vs,aAM]
  constructor
  ·rintro((h|h)|⟨u,h1,h2⟩)
   ·exact .inl h
   ·exact .inr ⟨v,Bg,h⟩
   ·exact .inr ⟨u,Bc _ h1,h2⟩
  ·rintro(h|⟨u,h1,h2⟩)
   ·exact .inl (.inl h)
   ·rcases Au.1 h1 with rfl|h1
    ·exact .inl (.inr h2)
    ·exact .inr ⟨u,h1,h2⟩
theorem aDx{dist at_:List Int}{d:Int}:∀(j k:Nat),(∃e,k<=e/\e<k+j/\bF tab dist e d at_ []≠[])->∃e,k<=e/\e<k+j/\P5 tab dist at_ d j k=(e,bF tab dist e d at_ [])/\bF tab dist e d at_ []≠[]/\∀f,k<=f->f<e->bF tab dist f d at_ []=[]
 |0,k,⟨e,h1,h2,_⟩=>by omega
 |j+1,k,⟨e,h1,h2,h3⟩=>by
  unfold P5
  split
  ·rename_i hc
   have hek:e≠k:=fun h=>h3 (h▸hc);obtain⟨f,g1,g2,g3,g4,g5⟩:=aDx j (k+1) ⟨e,by omega,by omega,h3⟩;refine⟨f,by omega,by omega,g3,g4,fun x hx1 hx2=> ?_⟩
   by_cases hxk:x=k
   ·subst hxk;exact hc
   ·exact g5 x om hx2
  ·rename_i hc
   exact⟨k,Ad _,by omega,rfl,hc,fun f h h'=>by omega⟩
theorem I8{dist:List Int}(h:Full nx ls gl aL dist){v:Int}{k:Nat}(h0:0<=v)(h1:v<aL):dist.getD v.toNat 0=k↔Far nx ls gl v k:=by
 have hv:((v.toNat:Nat):Int)=v:=om
 rcases h.2 v.toNat om with⟨e,h3,h4⟩|⟨h3,h4⟩
 ·rw[hv]at h4
  constructor
  ·intro h5;have:e=k:=om;rw[<-this];exact h4
  ·intro h5;rw[h3,GA h4 h5]
 ·rw[hv]at h4
  constructor
  ·intro h5;omega
  ·intro h5;exact(h4 k h5.1).elim
theorem XM(ht:Tab nx ls aL tab){v:Int}{k:Nat}(h0:0<=v)(h1:v<aL)(hk:k<ls.length):(tab.getD v.toNat []).getD k []=nx v (ls.getD k 0):=by
 rw[ht.row v.toNat om,show((v.toNat:Nat):Int)=v by omega,Aa,Bb,Ae hk,Aa,Ae hk];rfl
theorem aD1:∀ {l:List Int} {i j:Nat},l.Pairwise (·<·)->i<j->j<l.length->l.getD i 0<l.getD j 0
 | [],i,j,_,_,h=>by simp at h
 |a::l,0,j+1,h,_,hj=>by
  have hj':j<l.length:=by simpa using hj
  have:=(List.pairwise_cons.1 h).1 (l.getD j 0) (by rw[Aa,Ae hj'];exact Ba hj')
  simpa using this
 |a::l,i+1,j+1,h,hij,hj=>by
  have:=aD1 (List.pairwise_cons.1 h).2 (i:=i) (j:=j) om (by simpa using hj)
  simpa using this
theorem aNN(ht:Tab nx ls aL tab){dist:List Int}(hf:Full nx ls gl aL dist)(ha:ls.Pairwise (·<·)):∀(d:Nat) (at_:List Int),(∀v∈at_,(0<=v/\v<aL)/\Far nx ls gl v d)->at_≠[]->
  (nD tab dist ls d at_).length=d/\(∃v∈at_,∃g,Path nx ls v (nD tab dist ls d at_) g/\gl g=true)/\∀w v g,v∈at_->w.length=d->Path nx ls v w g->gl g=true->¬s5 w (nD tab dist ls d at_):=by
 intro d
 induction d with
 |zero=>
  intro at_ hat hne;refine⟨rfl,?_,fun w v g _ hw _ _ h=> ?_⟩
  ·cases at_ with
   |nil=>exact(hne rfl).elim
   |cons v vs=>
    have:=(hat v Bg).2;exact⟨v,Bg,v,rfl,TN.1 this.1⟩
  ·have:w=[]:=Bs.1 hw;subst this;exact h
 |succ d ih=>
  intro at_ hat hne
  have hmem:∀k x,k<ls.length->(x∈bF tab dist k d at_ []↔∃v∈at_,x∈nx v (ls.getD k 0)/\Far nx ls gl x d):=by
   intro k x hk;rw[QG];simp only[Bv,false_or]
   constructor
   ·rintro⟨v,hv,h1,h2⟩;have hr:=(hat v hv).1;rw[XM ht hr.1 hr.2 hk]at h1;have hl:ls.getD k 0∈ls:=by rw[Aa,Ae hk];exact Ba hk
    have hx:=ht.rng v _ hr.1 hr.2 hl x h1;exact⟨v,hv,h1,(I8 hf hx.1 hx.2).1 h2⟩
   ·rintro⟨v,hv,h1,h2⟩;have hr:=(hat v hv).1;have hl:ls.getD k 0∈ls:=by rw[Aa,Ae hk];exact Ba hk
    have hx:=ht.rng v _ hr.1 hr.2 hl x h1;exact⟨v,hv,by rw[XM ht hr.1 hr.2 hk];exact h1,(I8 hf hx.1 hx.2).2 h2⟩
  have hidx:∀l∈ls,∃k,k<ls.length/\ls.getD k 0=l:=by
   intro l hl;obtain⟨k,hk,h⟩:=Dk hl;exact⟨k,hk,by rw[Aa,Ae hk,h];rfl⟩
  obtain⟨v0,hv0⟩:∃v,v∈at_:=by
   cases at_ with
   |nil=>exact(hne rfl).elim
   |cons v vs=>exact⟨v,Bg⟩
  obtain⟨l0,hl0,m0,hm0,hfm0⟩:=QF (hat v0 hv0).2;obtain⟨k0,hk0,e0⟩:=hidx l0 hl0
  have hne0:bF tab dist k0 d at_ []≠[]:=by
   intro h;have:=(hmem k0 m0 hk0).2 ⟨v0,hv0,by rw[e0];exact hm0,hfm0⟩;rw[h]at this;cases this
  obtain⟨e,_,h2,h3,h4,h5⟩:=aDx (tab:=tab) (dist:=dist) (at_:=at_) (d:=d) (ls.length+1) 0 ⟨k0,by omega,by omega,hne0⟩
  have hel:e<ls.length:=by
   apply Nat.lt_of_not_le;intro h
   by_cases he0:k0<e
   ·exact hne0 (h5 k0 om he0)
   ·omega
  have hel2:ls.getD e 0∈ls:=by rw[Aa,Ae hel];exact Ba hel
  unfold nD;rw[h3];simp only
  have hat2:∀x∈bF tab dist e d at_ [],(0<=x/\x<aL)/\Far nx ls gl x d:=by
   intro x hx;obtain⟨v,hv,g1,g2⟩:=(hmem e x hel).1 hx;have hr:=(hat v hv).1;exact⟨ht.rng v _ hr.1 hr.2 hel2 x g1,g2⟩
  obtain⟨i1,⟨m,hm,g,i2,i3⟩,i4⟩:=ih _ hat2 h4;refine⟨by simp[i1],?_,?_⟩
  ·obtain⟨v,hv,g1,g2⟩:=(hmem e m hel).1 hm;exact⟨v,hv,g,⟨hel2,m,g1,i2⟩,i3⟩
  ·intro w v g' hv hw hp hg hlt
   cases w with
   |nil=>simp at hw
   |cons l w=>
    obtain⟨hl,m',hm',hp'⟩:=hp
    have hfm:Far nx ls gl m' d:=by
     refine⟨⟨w,g',by simpa using hw,hp',hg⟩,fun x hx hax=> ?_⟩;exact(hat v hv).2.2 (x+1) om (KO.2 ⟨l,hl,m',hm',hax⟩)
    obtain⟨k,hk,ek⟩:=hidx l hl;have hmc:m'∈bF tab dist k d at_ []:=(hmem k m' hk).2 ⟨v,hv,by rw[ek];exact hm',hfm⟩
    have hke:e<=k:=by
     apply Nat.le_of_not_lt;intro h;rw[h5 k om h]at hmc;cases hmc
    rcases hlt with h|⟨h,h'⟩
    ·by_cases hek:e=k
     ·subst hek;omega
     ·have:=aD1 ha (i:=e) (j:=k) om hk;omega
    ·have:e=k:=by
      apply Nat.le_antisymm hke;apply Nat.le_of_not_lt;intro hc;have:=aD1 ha (i:=e) (j:=k) hc hk;omega
     subst this;exact i4 w m' g' hmc (by simpa using hw) hp' hg h'
theorem aO3(ht:Tab nx ls aL tab){dist:List Int}(hf:Full nx ls gl aL dist)(ha:ls.Pairwise (·<·)){s:Int}(h0:0<=s)(h1:s<aL):XJ (Hits nx ls [s] gl) (aCw tab ls dist s):=by
 have hv:((s.toNat:Nat):Int)=s:=om;unfold aCw
 rcases hf.2 s.toNat om with⟨k,h2,h3⟩|⟨h2,h3⟩
 ·rw[hv]at h3;rw[h2,if_neg om,Ct];obtain⟨i1,⟨v,hv1,g,i2,i3⟩,i4⟩:=aNN ht hf ha k [s] (fun v hv=>by simp at hv;subst hv;exact⟨⟨h0,h1⟩,h3⟩) sm;have:v=s:=by simpa using hv1
  subst this;refine .inl ⟨rfl,⟨g,⟨v,by simp,i2⟩,i3⟩,?_⟩;rintro x ⟨u,⟨y,hy,hp⟩,hg⟩ hlt;have:y=v:=by simpa using hy
  subst this;have hlt':slt x (nD tab dist ls k [y]):=hlt
  rcases hlt' with h|⟨h,h'⟩
  ·exact h3.2 x.length om ⟨x,u,rfl,hp,hg⟩
  ·exact i4 x y u sm om hp hg h'
 ·rw[hv]at h3;rw[h2,if_pos om];refine .inr ⟨rfl,?_⟩;rintro w ⟨u,⟨y,hy,hp⟩,hg⟩;have:y=s:=by simpa using hy
  subst this;exact h3 w.length ⟨w,u,rfl,hp,hg⟩
end
end
def sysD:List Sys->List D
 | []=>[]
 |s::l=>.int .i64 s.al::.int .i64 s.st::.ivs s.es.length (aJ s.es)::sysD l
def jW:List Aut->List D
 | []=>[]
 |a::l=>.int .i64 a.al::.ivs a.nx.length (aP a.nx)::.ivs a.ac.length (aK a.ac)::jW l
theorem PX:sysD []=[]:=rfl
theorem pP:∀ {l:List Sys},(sysD l).length=l.length*3
 | []=>rfl
 |p::l=>by simp only[sysD,Ac,pP (l:=l)];omega
theorem IS:∀ {l:List Aut},(jW l).length=l.length*3
 | []=>rfl
 |p::l=>by simp only[jW,Ac,IS (l:=l)];omega
theorem xP:∀ {l:List Sys} {k:Nat},(sysD l).drop (k*3)=sysD (l.drop k)
 |l,0=>by simp
 | [],k+1=>by simp[sysD]
 |p::l,k+1=>by
  rw[Bw,Nat.one_mul];simp only[sysD,Dg];exact xP
theorem F4:∀ {l:List Aut} {k:Nat},(jW l).drop (k*3)=jW (l.drop k)
 |l,0=>by simp
 | [],k+1=>by simp[jW]
 |p::l,k+1=>by
  rw[Bw,Nat.one_mul];simp only[jW,Dg];exact F4
theorem BF{l:List Sys}{k:Nat}(h:l.length<=k):(sysD l).take (k*3)=sysD l:=Ca (by rw[pP];omega)
theorem aNY{l:List Sys}{k:Nat}(h:k<l.length):(((sysD l).drop (k*3)).map A.d).head? =some (.d (.int .i64 (l.getD k default).al)):=by
 rw[xP,bP h (d:=default)];rfl
theorem aSq{l:List Sys}{k:Nat}(h:k<l.length):(((sysD l).drop (k*3+1)).map A.d).head? =some (.d (.int .i64 (l.getD k default).st)):=by
 rw[<-Br,xP,bP h (d:=default)];rfl
theorem aSS{l:List Sys}{k:Nat}(h:k<l.length):(((sysD l).drop (k*3+2)).map A.d).head? =some (.d (.ivs (l.getD k default).es.length (aJ (l.getD k default).es))):=by
 rw[<-Br,xP,bP h (d:=default)];rfl
theorem aSA{l:List Aut}{k:Nat}(h:k<l.length):(((jW l).drop (k*3+1)).map A.d).head? =some (.d (.ivs (l.getD k default).nx.length (aP (l.getD k default).nx))):=by
 rw[<-Br,F4,bP h (d:=default)];rfl
theorem aSi{l:List Aut}{k:Nat}(h:k<l.length):(((jW l).drop (k*3+2)).map A.d).head? =some (.d (.ivs (l.getD k default).ac.length (aK (l.getD k default).ac))):=by
 rw[<-Br,F4,bP h (d:=default)];rfl
theorem aRu{l:List Aut}{k:Nat}(h:k<l.length):(((jW l).drop (k*3)).map A.d).take 3=[.d (.int .i64 (l.getD k default).al),.d (.ivs (l.getD k default).nx.length (aP (l.getD k default).nx)),.d (.ivs (l.getD k default).ac.length (aK (l.getD k default).ac))]:=by
 rw[F4,bP h (d:=default)];rfl
structure Net where
 ps:List Sys
 us:List Aut
 start:List Int
 ls:Int
 kind:Int
 goal:Int
def netC(N:Net):List D:=[.ivs N.ps.length (sysD N.ps),.ivs N.us.length (jW N.us),.ivs N.start.length (ints N.start),.int .i64 N.ls,.int .i64 N.kind,.int .i64 N.goal]
def aCe(N:Net):List Int:=N.ps.map (·.st)++N.us.map fun a=>(a.nx.length:Int)
def decR:List Int->Int->List Int
 | [],_=>[]
 |z::zs,node=>node.tmod z::decR zs (node.tdiv z)
def decN(zs:List Int)(node:Int):List Int:=(decR zs.reverse node).reverse
def encN:List Int->List Int->Int->Int
 |z::zs,s::ss,node=>encN zs ss (node*z+s)
 |_,_,node=>node
def eV(es:List Edge)(q l:Int):List Int:=(es.filter fun e=>decide (e.fr=q)&&decide (e.lt=l)).map (·.to)
def mulN(out:List Int)(z:Int)(ch:List Int):List Int:=out.flatMap fun o=>ch.map fun c=>o*z+c
def okN(N:Net)(states:List Int)(i:Nat):Bool:=(N.us.getD i default).ac.getD (states.getD (N.ps.length+i) 0).toNat false
def aHc(N:Net)(states:List Int)(mvs:List (List Int)):Bool:=
 if N.kind=0 then okN N states 0
 else if N.kind=1 then okN N states 0 !=okN N states 1
 else if N.kind=2 then okN N states 0&& !okN N states 1
 else if N.kind=3 then !okN N states 0
 else if N.kind=5 then decide (states.getD N.ps.length 0=N.goal)
 else mvs.all fun r=>r.isEmpty
section
variable{R:Type}{L n:Nat}
theorem NE:type_of% (AI @pP (AI @IS @BF)):=
 ⟨@pP,@IS,@BF⟩
theorem fO{l:List Int}{i:Nat}(h:i<l.length):l.getD i 0∈l:=by
 rw[Aa,Ae h];exact Ba h
theorem aPF{l:List Int}{j:Nat}(h:j<l.length):(l.take (j+1)).reverse=l.getD j 0::(l.take j).reverse:=by
 rw[Dt,Ae h,List.reverse_append,Aa,Ae h];rfl
def decE:List Int->Int->Int
 | [],n=>n
 |z::zs,n=>decE zs (n.tdiv z)
theorem PZ:∀(zs:List Int) (n:Int),(decR zs n).length=zs.length
 | [],_=>rfl
 |z::zs,n=>by simp[decR,PZ zs]
theorem BQ(zs:List Int)(n:Int):(decN zs n).length=zs.length:=by simp[decN,PZ]
theorem aBR(hn:1<=n){zs:List Int}(hz:∀z∈zs,0<z/\z<=65536)(hl:zs.length<=1000){k:KE R}:∀(j:Nat) (i node:Int) (m:Nat) (o:List Int) (len:Nat) (hi:i=(j:Int)-1) (hj:j<=zs.length) (h0:0<=node) (h1:node<=4294967296) (hm:j<m) (ho:o.length=zs.length) (hlen:len=zs.length),
  aS env (aA env L n) L 0 [] Bz60 (EN 0) (Z2 (U2 (Z2 (Z1 (U16 (U8 (U2 ([])))))))) m (.d (.ivs zs.length (ints zs))::nI node::Y2 (.d .nils::.sl 0 0 0 len::nI i::Y16 (Y8 (Y2 ([]))))) [.arr (ints o) 1 0] k
  =k (.exit 0) (.d (.ivs zs.length (ints zs))::nI (decE (zs.take j).reverse node)::Y2 (.d .nils::.sl 0 0 0 len::nI (-1)::Y16 (Y8 (Y2 ([]))))) [.arr (ints ((decR (zs.take j).reverse node).reverse++o.drop j)) 1 0]:=by
 intro j
 induction j with
 |zero=>
  intro i node m o len hi hj h0 h1 hm ho hlen;obtain _|m:=m;omega;obtain rfl:i= -1:=om
  simp-implicitDefEqProofs (maxSteps:=9^7) (disch:=try exact Dz) only[↓DN,↓kRet,UP,simprocAttr,EY,A1,Tryz.f157];simp[decR,decE]
 |succ j ih=>
  intro i node m o len hi hj h0 h1 hm ho hlen;obtain _|m:=m;omega;obtain rfl:i=(j:Int):=om;subst hlen;have hk:j<zs.length:=om;have hk2:j<o.length:=om;have hc:(j:Int)<zs.length:=om;obtain⟨z1,z2⟩:=hz _ (fO hk);have hz0:¬zs.getD j 0=0:=om;have t0:0<=node.tdiv (zs.getD j 0):=Cl h0 om
  have t1:node.tdiv (zs.getD j 0)<=node:=by
   rw[Int.tdiv_eq_ediv_of_nonneg h0];exact Int.ediv_le_self _ h0
  have ih':=ih ((j:Int)-1) (node.tdiv (zs.getD j 0)) m (o.set j (node.tmod (zs.getD j 0))) zs.length rfl om t0 om om (by simpa using ho) rfl;rw[aPF hk];simp only[decR,decE,List.reverse_cons,Ao,As,Am]
  have e:(o.set j (node.tmod (zs.getD j 0))).drop j=node.tmod (zs.getD j 0)::o.drop (j+1):=by
   rw[bP (d:=0) (by simpa using hk2),aEG hk2,if_pos rfl,List.drop_set_of_lt om]
  rw[e]at ih';clear ih e;have hj0:(0:Int)<=j:=om
  simp-implicitDefEqProofs (maxSteps:=9^7) (disch:=try exact Dz) only[↓DN,↓kRet,UP,simprocAttr,hc,hj0,↓GR,↓ih',EY,A1,Tryz.f157]
theorem QY(hn:2<=n)(zs:List Int)(node:Int)(hz:∀z∈zs,0<z/\z<=65536)(hl:zs.length<=1000)(h0:0<=node)(h1:node<=4294967296)(hL:2^60<=L):aA env L n 157 [.d (.ivs zs.length (ints zs)),nI node] []=some (.d (.ivs zs.length (ints (decN zs node))),[]):=by
 have loop_c:=fun {R n k} hn=> @aBR R L n hn zs hz hl k zs.length ((zs.length:Int)-1) node L (List.replicate zs.length 0) zs.length rfl (Ad _) h0 h1 om sm rfl;have e:(List.replicate zs.length (0:Int)).drop zs.length=[]:=sm;rw[Cs,e,Ah]at loop_c;have e2:(decR zs.reverse node).reverse=decN zs node:=rfl;have e3:=BQ zs node;rw[e2]at loop_c;generalize decN zs node=w at *;have e4:(ints w).take zs.length=ints w:=eW om;obtain _|n:=n;omega
 simp-implicitDefEqProofs (maxSteps:=9^7) (disch:=try exact Dz) only[↓DN,↓kAsg,↓kRet,UP,simprocAttr,↓DW,↓loop_c,e4,e3,aGK,V0,Tryz.f157]
theorem QX:type_of% fun {L} zs node hz hl h0 h1 hL=>ks fun hn=> @QY L _ hn zs node hz hl h0 h1 hL:=fun {L} zs node hz hl h0 h1 hL=>ks fun hn=> @QY L _ hn zs node hz hl h0 h1 hL
def QD:List Int->List Int->Int->Prop
 |z::zs,s::ss,node=>(0<=node*z/\node*z<=4294967296)/\(0<=node*z+s/\node*z+s<=4294967296)/\QD zs ss (node*z+s)
 | [],[],_=>True
 |_,_,_=>False
theorem aCN(hn:1<=n){zs ss:List Int}(hl:zs.length<=1000)(hls:ss.length=zs.length){k:KE R}:∀(j i:Nat) (node:Int) (m:Nat) (hi:i+j=zs.length) (hok:QD (zs.drop i) (ss.drop i) node) (hm:j<m),
  aS env (aA env L n) L 0 [] Bz71 (D2 0) (Z2 (U2 (Z2 (Z1 (U16 (U2 ([]))))))) m (.d (.ivs zs.length (ints zs))::.d (.ivs ss.length (ints ss))::Y2 (nI 0::nI node::nI i::Y16 (Y2 ([])))) [] k
  =k (.exit 0) (.d (.ivs zs.length (ints zs))::.d (.ivs ss.length (ints ss))::Y2 (nI 0::nI (encN (zs.drop i) (ss.drop i) node)::nI (zs.length)::Y16 (Y2 ([])))) []:=by
 intro j
 induction j with
 |zero=>
  intro i node m hi hok hm;obtain _|m:=m;omega;obtain rfl:i=zs.length:=om
  simp-implicitDefEqProofs (maxSteps:=9^7) (disch:=try exact Dz) only[↓DN,↓kRet,UP,simprocAttr,Ak,FK,BI,Tryz.f159];simp[encN]
 |succ j ih=>
  intro i node m hi hok hm;obtain _|m:=m;omega;have hk:i<zs.length:=om;have hk2:i<ss.length:=om;have hc:(i:Int)<zs.length:=om;have hc2:(i:Int)<ss.length:=om;rw[bP hk (d:=0),bP hk2 (d:=0)]at hok|-;obtain⟨b1,b2,b3⟩:=hok;have ih':=ih (i+1) _ m om b3 om;rw[cs1 i]at ih';simp only[encN];clear ih b3
  simp-implicitDefEqProofs (maxSteps:=9^7) (disch:=try exact Dz) only[↓DN,↓kRet,UP,simprocAttr,hc,hc2,↓ih',FK,BI,Tryz.f159]
theorem aGl(hn:2<=n)(zs ss:List Int)(hl:zs.length<=1000)(hls:ss.length=zs.length)(hok:QD zs ss 0)(hL:2^60<=L):aA env L n 159 [.d (.ivs zs.length (ints zs)),.d (.ivs ss.length (ints ss))] []=some (nI (encN zs ss 0),[]):=by
 have loop_c:=fun {R n k} hn=> @aCN R L n hn zs ss hl hls k zs.length 0 0 L om hok om;simp only[Ax,Aw]at loop_c;obtain _|n:=n;omega
 simp-implicitDefEqProofs (maxSteps:=9^7) (disch:=try exact Dz) only[↓DN,↓kAsg,UP,simprocAttr,↓loop_c,aGC,VK,Tryz.f159]
theorem aGN{hq:H}{k:KA R}(hn:2<=n)(zs ss:List Int)(hl:zs.length<=1000)(hls:ss.length=zs.length)(hok:QD zs ss 0)(hL:2^60<=L):aW env (aA env L n) hq 159 [.d (.ivs zs.length (ints zs)),.d (.ivs ss.length (ints ss))] k=k (nI (encN zs ss 0)) hq:=
 cS rfl (aGl hn zs ss hl hls hok hL) rfl (.inl rfl)
theorem aBc(hn:1<=n){N:Net}(h1:N.ps.length<=1000)(h2:N.us.length<=1000){k:KE R}:∀(j i m:Nat) (o:List Int) (len:Nat) (hi:i+j=N.ps.length) (hm:j<m) (hlen:len=o.length) (ho:o.length+j<=4000),
  aS env (aA env L n) L 0 [] Bz44 (sE 0) (U1 (Z4 (U32 (U4 ([]))))) m (Y1 (.ptr 0 0 0::.d .nils::.sl 1 0 0 len::nI i::Y32 (Y4 ([])))) [.box ((netC N).map A.d),.arr (ints o) 1 0] k
  =k (.exit 0) (Y1 (.ptr 0 0 0::.d .nils::.sl 1 0 0 (o++(N.ps.drop i).map (·.st)).length::nI (N.ps.length)::Y32 (Y4 ([])))) [.box ((netC N).map A.d),.arr (ints (o++(N.ps.drop i).map (·.st))) 1 0]:=by
 intro j
 induction j with
 |zero=>
  intro i m o len hi hm hlen ho;obtain _|m:=m;omega;obtain rfl:i=N.ps.length:=om;subst hlen
  simp-implicitDefEqProofs (maxSteps:=9^7) (disch:=try exact Dz) only[↓DN,↓kRet,UP,simprocAttr,netC,Ak,JD,EH,Tryz.f154];simp
 |succ j ih=>
  intro i m o len hi hm hlen ho;obtain _|m:=m;omega;subst hlen;have hk:i<N.ps.length:=om;have hc:(i:Int)<N.ps.length:=om;have g:=aSq hk;have ih':=ih (i+1) m (o++[(N.ps.getD i default).st]) (o.length+1) om om sm (by rw[Ai,Ci];omega);rw[cs1 i]at ih';rw[bP hk (d:=default),Af];simp only[Ao,As,Am]at ih';clear ih;generalize(N.ps.getD i default).st=s at *;simp only[netC,Af,Al]at ih'|-
  simp-implicitDefEqProofs (maxSteps:=9^7) (disch:=try exact Dz) only[↓DN,↓kRet,UP,simprocAttr,NE,Ar,Bj,Br,hc,g,↓ih',JD,EH,Tryz.f154]
theorem aA6(hn:1<=n){N:Net}(h1:N.ps.length<=1000)(h2:N.us.length<=1000)(h3:∀a∈N.us,a.nx.length<=1000){k:KE R}:∀(j i m:Nat) (o:List Int) (len i4:Nat) (hi:i+j=N.us.length) (hm:j<m) (hlen:len=o.length) (ho:o.length+j<=4000),
  aS env (aA env L n) L 0 [] Bz44 (sE 1) (U1 (Z4 (Z1 (U32 (U2 (U1 ([]))))))) m (Y1 (.ptr 0 0 0::.d .nils::.sl 1 0 0 len::nI i4::nI i::Y32 (Y2 (Y1 ([]))))) [.box ((netC N).map A.d),.arr (ints o) 1 0] k
  =k (.exit 2) (Y1 (.ptr 0 0 0::.d .nils::.sl 1 0 0 (o++(N.us.drop i).map fun a=>(a.nx.length:Int)).length::nI i4::nI (N.us.length)::Y32 (Y2 (Y1 ([]))))) [.box ((netC N).map A.d),.arr (ints (o++(N.us.drop i).map fun a=>(a.nx.length:Int))) 1 0]:=by
 intro j
 induction j with
 |zero=>
  intro i m o len i4 hi hm hlen ho;obtain _|m:=m;omega;obtain rfl:i=N.us.length:=om;subst hlen
  simp-implicitDefEqProofs (maxSteps:=9^7) (disch:=try exact Dz) only[↓DN,↓kRet,UP,simprocAttr,netC,Ak,G3,EL,Tryz.f154];simp
 |succ j ih=>
  intro i m o len i4 hi hm hlen ho;obtain _|m:=m;omega;subst hlen;have hk:i<N.us.length:=om;have hc:(i:Int)<N.us.length:=om;have hmem:N.us.getD i default∈N.us:=by rw[Aa,Ae hk];exact Ba hk
  have ha:=h3 _ hmem;have g:=aSA hk;have ih':=ih (i+1) m (o++[((N.us.getD i default).nx.length:Int)]) (o.length+1) i4 om om sm (by rw[Ai,Ci];omega);rw[cs1 i]at ih';rw[bP hk (d:=default),Af];simp only[Ao,As,Am]at ih';clear ih hmem;generalize N.us.getD i default=s at *;simp only[netC,Af,Al]at ih'|-
  simp-implicitDefEqProofs (maxSteps:=9^7) (disch:=try exact Dz) only[↓DN,↓kRet,UP,simprocAttr,NE,Ar,Bj,Br,hc,g,↓ih',G3,EL,Tryz.f154]
theorem aHi(hn:2<=n)(N:Net)(h1:N.ps.length<=1000)(h2:N.us.length<=1000)(h3:∀a∈N.us,a.nx.length<=1000)(hL:2^60<=L):aA env L n 154 [.agg ((netC N).map A.d)] []=some (.d (.ivs (aCe N).length (ints (aCe N))),[]):=by
 have loop_a:=fun {R n k} hn=> @aBc R L n hn N h1 h2 k N.ps.length 0 L [] 0 om om rfl (by simp;omega);have loop_b:=fun {R n k} hn=> @aA6 R L n hn N h1 h2 h3 k N.us.length 0 L (N.ps.map (·.st)) (N.ps.map (·.st)).length N.ps.length om om rfl (by simp;omega);simp only[Ax,Aw,Am,gY]at loop_a loop_b;have e:N.ps.map (·.st)++N.us.map (fun a=>(a.nx.length:Int))=aCe N:=rfl;rw[e]at loop_b;generalize aCe N=w at *;generalize N.ps.map (·.st)=v at *;have e4:(ints w).take w.length=ints w:=eW (Ad _);simp only[netC,Af,Al]at loop_a loop_b|-;obtain _|n:=n;omega
 simp-implicitDefEqProofs (maxSteps:=9^7) (disch:=try exact Dz) only[↓DN,↓kAsg,↓kRet,UP,simprocAttr,↓loop_a,↓loop_b,e4,aHt,ZH,Tryz.f154]
end
section
variable{R:Type}{L n:Nat}
theorem aJ0(hn:1<=n){l:List Int}{x:Int}(hl:l.length<=4294967290){k:KE R}:∀(j i m:Nat) (hi:i+j=l.length) (hm:j<m),
  aS env (aA env L n) L 0 [] Bz74 (UI 0) (Z2 (U2 (Z2 (U8 (U4 ([])))))) m (.d (.ivs l.length (ints l))::nI x::Y2 (.d (.bool false)::nI i::Y8 (Y4 ([])))) [] k
  =match seek (fun i=>decide (l.getD i 0=x)) j i with
   |none=>k (.exit 0) (.d (.ivs l.length (ints l))::nI x::Y2 (.d (.bool false)::nI (l.length)::Y8 (Y4 ([])))) []
   |some q=>k .ret (.d (.ivs l.length (ints l))::nI x::Y2 (.d (.bool true)::nI q::Y8 (Y4 ([])))) []:=by
 intro j
 induction j with
 |zero=>
  intro i m hi hm;obtain _|m:=m;omega;obtain rfl:i=l.length:=om
  simp-implicitDefEqProofs (maxSteps:=9^7) (disch:=try exact Dz) only[↓DN,↓kRet,UP,simprocAttr,Ak,D7,FZ,Tryz.f215]<;>rfl
 |succ j ih=>
  intro i m hi hm;obtain _|m:=m;omega;have hk:i<l.length:=om;have hc:(i:Int)<l.length:=om;have hi0:(0:Int)<=i:=om
  by_cases he:l.getD i 0=x
  ·rw[i7 (p:=fun i=>decide (l.getD i 0=x)) (by simpa using he)]
   simp-implicitDefEqProofs (maxSteps:=9^7) (disch:=try exact Dz) only[↓DN,↓kAsg,↓kRet,UP,simprocAttr,hc,hi0,he,D7,FZ,Tryz.f215]
  ·rw[lC (p:=fun i=>decide (l.getD i 0=x)) (by simpa using he)];have ih':=ih (i+1) m om om;rw[cs1 i]at ih';clear ih
   simp-implicitDefEqProofs (maxSteps:=9^7) (disch:=try exact Dz) only[↓DN,↓kRet,UP,simprocAttr,hc,hi0,he,↓ih',D7,FZ,Tryz.f215]
theorem aFz(hn:2<=n)(l:List Int)(x:Int)(hl:l.length<=4294967290)(hL:2^60<=L):aA env L n 215 [.d (.ivs l.length (ints l)),nI x] []=some (.d (.bool (decide (x∈l))),[]):=by
 have loop_c:=fun {R n k} hn=> @aJ0 R L n hn l x hl k l.length 0 L om om;simp only[Aw]at loop_c
 cases hs:seek (fun i=>decide (l.getD i 0=x)) l.length 0 with
 |none=>
  have hx:¬x∈l:=by
   intro hx;obtain⟨q,hq,e⟩:=Dk hx;have:=jP.1 hs q om om;simp only[decide_eq_false_iff_not]at this;exact this (by rw[Aa,Ae hq,e];rfl)
  simp only[hs]at loop_c;obtain _|n:=n;omega
  simp-implicitDefEqProofs (maxSteps:=9^7) (disch:=try exact Dz) only[↓DN,↓kAsg,UP,simprocAttr,↓loop_c,hx,aFe,aAW,Tryz.f215]
 |some q=>
  obtain⟨h1,h2,h3,_⟩:=LZ hs
  have hx:x∈l:=by
   simp only[decide_eq_true_eq]at h3;rw[<-h3];exact fO om
  simp only[hs]at loop_c;obtain _|n:=n;omega
  simp-implicitDefEqProofs (maxSteps:=9^7) (disch:=try exact Dz) only[↓DN,↓kAsg,UP,simprocAttr,↓loop_c,hx,aFe,aAW,Tryz.f215]
theorem aOv:type_of% fun {L} l x hl hL=>kt fun hn=> @aFz L _ hn l x hl hL:=fun {L} l x hl hL=>kt fun hn=> @aFz L _ hn l x hl hL
theorem Y5{L:Nat}{id0 g0 o0 len0:Nat}{x:Int}:KV L 215 [.sl id0 g0 o0 len0,nI x]:=fun _ _ _ _=>fI MM
def QA(dist r:List Int)(d:Int):Nat->Bool:=fun i=>decide (dist.getD (r.getD i 0).toNat 0=d)
def KX(dist:List Int)(mvs:List (List Int))(d:Int):Nat->Bool:=fun k=>(seek (QA dist (mvs.getD k []) d) (mvs.getD k []).length 0).isSome
theorem aH3{α:Type}{l:List α}{p:α->Bool}{q:Nat->Bool}{x:α}(hq:∀i,i<l.length->q i=p (l.getD i x)):(seek q l.length 0).isSome=l.any p:=by
 rw[Bool.eq_iff_iff,Eh,List.any_eq_true]
 constructor
 ·rintro⟨r,hr⟩;obtain⟨_,h2,h3,_⟩:=LZ hr;refine⟨l.getD r x,?_,by rw[<-hq r om];exact h3⟩;rw[Aa,Ae om];exact Ba om
 ·rintro⟨y,hy,hp⟩;obtain⟨r,hr,e⟩:=Dk hy
  cases hs:seek q l.length 0 with
  |some z=>exact⟨z,rfl⟩
  |none=>
   have:=jP.1 hs r om om;rw[hq r hr,Aa,Ae hr,Bd,e,hp]at this;cases this
theorem aMX{dist:List Int}{mvs:List (List Int)}{d:Int}:(seek (KX dist mvs d) mvs.length 0).isSome=KG mvs dist d:=by
 unfold KG;refine aH3 (x:=[]) fun k hk=> ?_;unfold KX;exact aH3 (x:=0) fun i hi=>rfl
theorem aBF(hn:1<=n){mvs:List (List Int)}{dist:List Int}{d:Int}{q:Nat}(hq:q<mvs.length)(hl:mvs.length<=4294967290)(hr:(mvs.getD q []).length<=4294967290)(hd:dist.length<=4294967290)(hm':∀x∈mvs.getD q [],0<=x/\x<dist.length){k:KE R}:∀(j i m:Nat) (hi:i+j=(mvs.getD q []).length) (hm:j<m),
  aS env (aA env L n) L 0 [] Bz19 (uT 1) (Z2 (Z1 (U2 (U1 (Z2 (Z1 (U16 (U8 (U2 (U1 ([]))))))))))) m (.d (.ivs mvs.length (aP mvs))::.d (.ivs dist.length (ints dist))::nI d::Y2 (Y1 (.d (.bool false)::nI q::nI i::Y16 (Y8 (Y2 (Y1 ([]))))))) [] k
  =match seek (QA dist (mvs.getD q []) d) j i with
   |none=>k (.exit 2) (.d (.ivs mvs.length (aP mvs))::.d (.ivs dist.length (ints dist))::nI d::Y2 (Y1 (.d (.bool false)::nI q::nI ((mvs.getD q []).length)::Y16 (Y8 (Y2 (Y1 ([]))))))) []
   |some r=>k .ret (.d (.ivs mvs.length (aP mvs))::.d (.ivs dist.length (ints dist))::nI d::Y2 (Y1 (.d (.bool true)::nI q::nI r::Y16 (Y8 (Y2 (Y1 ([]))))))) []:=by
 intro j;have hcq:(q:Int)<mvs.length:=om;have hq0:(0:Int)<=q:=om
 induction j with
 |zero=>
  intro i m hi hm;obtain _|m:=m;omega;obtain rfl:i=(mvs.getD q []).length:=om
  simp-implicitDefEqProofs (maxSteps:=9^7) (disch:=try exact Dz) only[↓DN,↓kRet,UP,simprocAttr,LA,hcq,hq0,Ak,yM,x5,Tryz.f214]<;>rfl
 |succ j ih=>
  intro i m hi hm;obtain _|m:=m;omega;have hk:i<(mvs.getD q []).length:=om;have hc:(i:Int)<(mvs.getD q []).length:=om;have hi0:(0:Int)<=i:=om;obtain⟨b1,b2⟩:=hm' _ (fO hk);have b3:((mvs.getD q []).getD i 0).toNat<dist.length:=om
  by_cases he:dist.getD ((mvs.getD q []).getD i 0).toNat 0=d
  ·rw[i7 (p:=QA dist (mvs.getD q []) d) (by simpa [QA]using he)]
   simp-implicitDefEqProofs (maxSteps:=9^7) (disch:=try exact Dz) only[↓DN,↓kAsg,↓kRet,UP,simprocAttr,LA,hcq,hq0,hc,hi0,b1,b2,he,yM,x5,Tryz.f214]
  ·rw[lC (p:=QA dist (mvs.getD q []) d) (by simpa [QA]using he)];have ih':=ih (i+1) m om om;rw[cs1 i]at ih';clear ih
   simp-implicitDefEqProofs (maxSteps:=9^7) (disch:=try exact Dz) only[↓DN,↓kRet,UP,simprocAttr,LA,hcq,hq0,hc,hi0,b1,b2,he,↓ih',yM,x5,Tryz.f214]
theorem aBx(hn:1<=n)(hL:2^60<=L){mvs:List (List Int)}{dist:List Int}{d:Int}(hl:mvs.length<=4294967290)(hr:∀r∈mvs,r.length<=4294967290/\∀x∈r,0<=x/\x<dist.length)(hd:dist.length<=4294967290){k:KE R}:∀(j q m:Nat) (hi:q+j=mvs.length) (hm:j<m),
  aS env (aA env L n) L 0 [] Bz19 (uT 0) (Z2 (Z1 (U2 (U1 (Z2 (U16 (U8 (U4 ([]))))))))) m (.d (.ivs mvs.length (aP mvs))::.d (.ivs dist.length (ints dist))::nI d::Y2 (Y1 (.d (.bool false)::nI q::Y16 (Y8 (Y4 ([])))))) [] k
  =match seek (KX dist mvs d) j q with
   |none=>k (.exit 0) (.d (.ivs mvs.length (aP mvs))::.d (.ivs dist.length (ints dist))::nI d::Y2 (Y1 (.d (.bool false)::nI (mvs.length)::Y16 (Y8 (Y4 ([])))))) []
   |some r=>k .ret (.d (.ivs mvs.length (aP mvs))::.d (.ivs dist.length (ints dist))::nI d::Y2 (Y1 (.d (.bool true)::nI r::Y16 (Y8 (Y4 ([])))))) []:=by
 intro j
 induction j with
 |zero=>
  intro q m hi hm;obtain _|m:=m;omega;obtain rfl:q=mvs.length:=om
  simp-implicitDefEqProofs (maxSteps:=9^7) (disch:=try exact Dz) only[↓DN,↓kRet,UP,simprocAttr,Ak,zI,y6,Tryz.f214]<;>rfl
 |succ j ih=>
  intro q m hi hm;obtain _|m:=m;omega;have hk:q<mvs.length:=om;have hc:(q:Int)<mvs.length:=om;have hq0:(0:Int)<=q:=om;have hmem:mvs.getD q []∈mvs:=by rw[Aa,Ae hk];exact Ba hk
  obtain⟨r1,r2⟩:=hr _ hmem;have loop_c:=fun {R n k} hn=> @aBF R L n hn mvs dist d q hk hl r1 hd r2 k (mvs.getD q []).length 0 L om om;simp only[Aw]at loop_c
  cases hs:seek (QA dist (mvs.getD q []) d) (mvs.getD q []).length 0 with
  |some z=>
   rw[i7 (p:=KX dist mvs d) (by unfold KX;rw[hs];rfl)];simp only[hs]at loop_c
   simp-implicitDefEqProofs (maxSteps:=9^7) (disch:=try exact Dz) only[↓DN,↓kAsg,↓kRet,UP,simprocAttr,hc,↓loop_c,zI,y6,Tryz.f214]
  |none=>
   rw[lC (p:=KX dist mvs d) (by unfold KX;rw[hs];rfl)];simp only[hs]at loop_c;have ih':=ih (q+1) m om om;rw[cs1 q]at ih';clear ih
   simp-implicitDefEqProofs (maxSteps:=9^7) (disch:=try exact Dz) only[↓DN,↓kAsg,↓kRet,UP,simprocAttr,hc,↓loop_c,↓ih',zI,y6,Tryz.f214]
theorem ZP(hn:2<=n)(mvs:List (List Int))(dist:List Int)(d:Int)(hl:mvs.length<=4294967290)(hr:∀r∈mvs,r.length<=4294967290/\∀x∈r,0<=x/\x<dist.length)(hd:dist.length<=4294967290)(hL:2^60<=L):aA env L n 214 [.d (.ivs mvs.length (aP mvs)),.d (.ivs dist.length (ints dist)),nI d] []=some (.d (.bool (KG mvs dist d)),[]):=by
 have loop_c:=fun {R n k} hn=> @aBx R L n hn hL mvs dist d hl hr hd k mvs.length 0 L om om;simp only[Aw]at loop_c;rw[<-aMX]
 cases hs:seek (KX dist mvs d) mvs.length 0 with
 |none=>
  simp only[hs]at loop_c;obtain _|n:=n;omega
  simp-implicitDefEqProofs (maxSteps:=9^7) (disch:=try exact Dz) only[↓DN,↓kAsg,UP,simprocAttr,↓loop_c,YT,P7,Tryz.f214]
 |some q=>
  simp only[hs]at loop_c;obtain _|n:=n;omega
  simp-implicitDefEqProofs (maxSteps:=9^7) (disch:=try exact Dz) only[↓DN,↓kAsg,UP,simprocAttr,↓loop_c,YT,P7,Tryz.f214]
theorem aJR:type_of% fun {L} mvs dist d hl hr hd hL=>kt fun hn=> @ZP L _ hn mvs dist d hl hr hd hL:=fun {L} mvs dist d hl hr hd hL=>kt fun hn=> @ZP L _ hn mvs dist d hl hr hd hL
theorem RV{L:Nat}{id1 g1 o1 len1:Nat}{mvs:List (List Int)}{d:Int}:KV L 214 [.d (.ivs mvs.length (aP mvs)),.sl id1 g1 o1 len1,nI d]:=fun _ _ _ _=>fI EQ
theorem aNy(hn:1<=n)(N:Net)(states:List Int)(i:Nat)(hi:i<N.us.length)(h1:N.ps.length<=1000)(h2:N.us.length<=1000)(hs:N.ps.length+i<states.length)(hs2:states.length<=4000)(ha:(N.us.getD i default).ac.length<=4294967290)(hq0:0<=states.getD (N.ps.length+i) 0)(hq1:states.getD (N.ps.length+i) 0<(N.us.getD i default).ac.length)(hL:2^60<=L):aA env L n 213 [.agg [.d (.ivs N.ps.length (sysD N.ps)),.d (.ivs N.us.length (jW N.us)),.d (.ivs N.start.length (ints N.start)),nI N.ls,nI N.kind,nI N.goal],.d (.ivs states.length (ints states)),nI i] []=some (.d (.bool (okN N states i)),[]):=by
 have g:=aSi hi
 have e1:IntKind.i64.wrap ((N.ps.length:Int)+i)=((N.ps.length+i:Nat):Int):=by
  rw[show(N.ps.length:Int)+i=((N.ps.length+i:Nat):Int) by omega];exact dM om om
 have hc1:((N.ps.length+i:Nat):Int)<states.length:=om;have hc2:(0:Int)<=((N.ps.length+i:Nat):Int):=om;have hi0:(0:Int)<=i:=om;have hi1:(i:Int)<N.us.length:=om;have hq3:(states.getD (N.ps.length+i) 0).toNat<(N.us.getD i default).ac.length:=om;unfold okN;generalize N.us.getD i default=a at *;generalize hz:N.ps.length+i=z at *;obtain _|n:=n;omega
 simp-implicitDefEqProofs (maxSteps:=9^7) (disch:=try exact Dz) only[↓DN,↓kAsg,↓kRet,UP,simprocAttr,NE,LA,Bj,Br,hi0,hi1,g,e1,hc1,hc2,hq0,hq1,hq3,aNx,aHW,Tryz.f213]
theorem aFy{hq:H}{k:KA R}(hn:1<=n)(N:Net)(states:List Int)(i:Nat)(hi:i<N.us.length)(h1:N.ps.length<=1000)(h2:N.us.length<=1000)(hs:N.ps.length+i<states.length)(hs2:states.length<=4000)(ha:(N.us.getD i default).ac.length<=4294967290)(hq0:0<=states.getD (N.ps.length+i) 0)(hq1:states.getD (N.ps.length+i) 0<(N.us.getD i default).ac.length)(hL:2^60<=L):aW env (aA env L n) hq 213 [.agg [.d (.ivs N.ps.length (sysD N.ps)),.d (.ivs N.us.length (jW N.us)),.d (.ivs N.start.length (ints N.start)),nI N.ls,nI N.kind,nI N.goal],.d (.ivs states.length (ints states)),nI i] k=k (.d (.bool (okN N states i))) hq:=
 cS rfl (aNy hn N states i hi h1 h2 hs hs2 ha hq0 hq1 hL) rfl (.inl rfl)
theorem aDK(hn:5<=n)(N:Net)(i:Nat)(q l:Int)(hi:N.ps.length<=i)(hi2:i-N.ps.length<N.us.length)(h1:N.ps.length<=1000)(h2:N.us.length<=1000)(u:Aut)(hu:N.us.getD (i-N.ps.length) default=u)(hs:bN u.nx)(hw:wL (aC u.al).length u.nx)(hq0:0<=q)(hq1:q<u.nx.length)(h0:0<=l)(h6:l<6)(hL:2^60<=L):aA env L n 252 [.agg [.d (.ivs N.ps.length (sysD N.ps)),.d (.ivs N.us.length (jW N.us)),.d (.ivs N.start.length (ints N.start)),nI N.ls,nI N.kind,nI N.goal],nI i,nI q,nI l] []=some (.d (.ivs 1 (ints [goI u.al u.nx q l])),[]):=by
 have g:=aRu hi2;rw[hu]at g
 have e1:IntKind.i64.wrap ((i:Int)-N.ps.length)=((i-N.ps.length:Nat):Int):=by
  rw[show(i:Int)-N.ps.length=((i-N.ps.length:Nat):Int) by omega];exact dM om om
 have hc:(N.ps.length:Int)<=i:=om;have hc1:((i-N.ps.length:Nat):Int)<N.us.length:=om;have hc2:(0:Int)<=((i-N.ps.length:Nat):Int):=om;have kc_g:=@aM1 L u.al q l u.nx u.ac.length (aK u.ac) hs hw hq0 hq1 h0 h6 hL;clear hu;generalize i-N.ps.length=z at *;obtain _|n:=n;omega
 simp-implicitDefEqProofs (maxSteps:=9^7) (disch:=try exact Dz) only[↓DN,↓kAsg,↓kRet,UP,simprocAttr,NE,Ar,Bj,hc,hc1,hc2,g,e1,↓kc_g,BM,vN,Tryz.f252]<;>rfl
end
section
variable{R:Type}{L n:Nat}
theorem aAu(hn:1<=n){c1 c2 c3 c4 c5 c6:D}{zs ss out ch:List Int}{l z:Int}{i q:Nat}(hi:i<zs.length)(hq:q<out.length)(hz:zs.getD i 0=z)(hzl:zs.length<=4000)(hol:out.length<=4294967290)(hcl:ch.length<=4294967290)(hb:0<=out.getD q 0*z/\out.getD q 0*z<=4294967296)(hcb:∀c∈ch,0<=c/\c<=65536){k:KE R}:∀(j p m:Nat) (o:List Int) (len:Nat) (hp:p+j=ch.length) (hm:j<m) (hlen:len=o.length) (ho:o.length+j<=4294967290),
  aS env (aA env L n) L 0 [] Bz5 (kW 2) (U1 (Z4 (U2 (U1 (Z4 (Z2 (Z1 (U32 (U8 (U4 (U2 (U1 ([]))))))))))))) m (Y1 (.d (.ivs zs.length (ints zs))::.d (.ivs ss.length (ints ss))::nI l::.ptr 0 0 0::Y2 (Y1 (.d .nils::.sl 1 0 0 out.length::nI i::.d (.ivs ch.length (ints ch))::.sl 2 0 0 len::nI q::nI p::Y32 (Y8 (Y4 (Y2 (Y1 ([]))))))))) [.box [.d c1,.d c2,.d c3,.d c4,.d c5,.d c6],.arr (ints out) 1 0,.arr (ints o) 1 0] k
  =k (.exit 4) (Y1 (.d (.ivs zs.length (ints zs))::.d (.ivs ss.length (ints ss))::nI l::.ptr 0 0 0::Y2 (Y1 (.d .nils::.sl 1 0 0 out.length::nI i::.d (.ivs ch.length (ints ch))::.sl 2 0 0 (o++(ch.drop p).map fun c=>out.getD q 0*z+c).length::nI q::nI (ch.length)::Y32 (Y8 (Y4 (Y2 (Y1 ([]))))))))) [.box [.d c1,.d c2,.d c3,.d c4,.d c5,.d c6],.arr (ints out) 1 0,.arr (ints (o++(ch.drop p).map fun c=>out.getD q 0*z+c)) 1 0]:=by
 intro j;have hci:(i:Int)<zs.length:=om;have hcq:(q:Int)<out.length:=om;have hi0:(0:Int)<=i:=om;have hq0:(0:Int)<=q:=om
 induction j with
 |zero=>
  intro p m o len hp hm hlen ho;obtain _|m:=m;omega;obtain rfl:p=ch.length:=om;subst hlen
  simp-implicitDefEqProofs (maxSteps:=9^7) (disch:=try exact Dz) only[↓DN,↓kRet,UP,simprocAttr,Ak,IF,EA,Tryz.f212];simp
 |succ j ih=>
  intro p m o len hp hm hlen ho;obtain _|m:=m;omega;subst hlen;have hk:p<ch.length:=om;have hc:(p:Int)<ch.length:=om;have hp0:(0:Int)<=p:=om;obtain⟨b1,b2⟩:=hcb _ (fO hk);have ih':=ih (p+1) m (o++[out.getD q 0*z+ch.getD p 0]) (o.length+1) om om sm (by rw[Ai,Ci];omega);rw[cs1 p]at ih';rw[bP hk (d:=0),Af];simp only[Ao,As,Am]at ih';clear ih
  simp-implicitDefEqProofs (maxSteps:=9^7) (disch:=try exact Dz) only[↓DN,↓kRet,UP,simprocAttr,hci,hcq,hi0,hq0,hc,hp0,hz,↓ih',IF,EA,Tryz.f212]
theorem PC(z:Int)(ch:List Int):∀out:List Int,(mulN out z ch).length=out.length*ch.length
 | []=>by simp[mulN]
 |o::out=>by
  have ih:=PC z ch out;unfold mulN at ih|-;rw[List.flatMap_cons,Ai,ih,Ar,Ac,Nat.succ_mul,Ck]
theorem aAj(hn:1<=n)(hL:2^60<=L){c1 c2 c3 c4 c5 c6:D}{zs ss out ch:List Int}{l z:Int}{i:Nat}(hi:i<zs.length)(hz:zs.getD i 0=z)(hzl:zs.length<=4000)(hol:out.length<=4294967290)(hcl:ch.length<=4294967290)(hb:∀o∈out,0<=o*z/\o*z<=4294967296)(hcb:∀c∈ch,0<=c/\c<=65536){k:KE R}:∀(j q m:Nat) (o:List Int) (len:Nat) (hp:q+j=out.length) (hm:j<m) (hlen:len=o.length) (ho:o.length+j*ch.length<=4294967290),
  aS env (aA env L n) L 0 [] Bz5 (kW 1) (U1 (Z4 (U2 (U1 (Z4 (Z2 (U32 (U16 ([]))))))))) m (Y1 (.d (.ivs zs.length (ints zs))::.d (.ivs ss.length (ints ss))::nI l::.ptr 0 0 0::Y2 (Y1 (.d .nils::.sl 1 0 0 out.length::nI i::.d (.ivs ch.length (ints ch))::.sl 2 0 0 len::nI q::Y32 (Y16 ([])))))) [.box [.d c1,.d c2,.d c3,.d c4,.d c5,.d c6],.arr (ints out) 1 0,.arr (ints o) 1 0] k
  =k (.exit 2) (Y1 (.d (.ivs zs.length (ints zs))::.d (.ivs ss.length (ints ss))::nI l::.ptr 0 0 0::Y2 (Y1 (.d .nils::.sl 1 0 0 out.length::nI i::.d (.ivs ch.length (ints ch))::.sl 2 0 0 (o++mulN (out.drop q) z ch).length::nI (out.length)::Y32 (Y16 ([])))))) [.box [.d c1,.d c2,.d c3,.d c4,.d c5,.d c6],.arr (ints out) 1 0,.arr (ints (o++mulN (out.drop q) z ch)) 1 0]:=by
 intro j
 induction j with
 |zero=>
  intro q m o len hp hm hlen ho;obtain _|m:=m;omega;obtain rfl:q=out.length:=om;subst hlen
  simp-implicitDefEqProofs (maxSteps:=9^7) (disch:=try exact Dz) only[↓DN,↓kRet,UP,simprocAttr,Ak,I4,EP,Tryz.f212];simp[mulN]
 |succ j ih=>
  intro q m o len hp hm hlen ho;obtain _|m:=m;omega;subst hlen;have hk:q<out.length:=om;have hc:(q:Int)<out.length:=om;have hq0:(0:Int)<=q:=om;have hb':=hb _ (fO hk);rw[Nat.succ_mul]at ho;have loop_c:=fun {R n k} hn=> @aAu R L n hn c1 c2 c3 c4 c5 c6 zs ss out ch l z i q hi hk hz hzl hol hcl hb' hcb k ch.length 0 L o o.length om om rfl om;simp only[Ax,Aw]at loop_c;have ih':=ih (q+1) m (o++ch.map fun c=>out.getD q 0*z+c) _ om om rfl (by rw[Ai,Ar];omega);rw[cs1 q]at ih'
  have e:mulN (out.drop q) z ch=(ch.map fun c=>out.getD q 0*z+c)++mulN (out.drop (q+1)) z ch:=by
   rw[bP hk (d:=0)];rfl
  rw[e,<-Ao];clear ih e;generalize(ch.map fun c=>out.getD q 0*z+c)=w at *;simp only[Ai]at ih' loop_c|-
  simp-implicitDefEqProofs (maxSteps:=9^7) (disch:=try exact Dz) only[↓DN,↓kAsg,↓kRet,UP,simprocAttr,hc,↓loop_c,↓ih',I4,EP,Tryz.f212]
def nexG(ch:Nat->List Int)(zs:List Int):Nat->Nat->List Int->List Int
 |0,_,out=>out
 |j+1,i,out=>nexG ch zs j (i+1) (mulN out (zs.getD i 0) (ch i))
theorem aPC{z b b2:Int}{ch out:List Int}(hz:0<=z)(hb:b*z+(z-1)<=b2)(ho:∀o∈out,0<=o/\o<=b)(hc:∀c∈ch,0<=c/\c<z):∀x∈mulN out z ch,0<=x/\x<=b2:=by
 intro x hx;obtain⟨o,h1,h2⟩:=Du.1 hx;obtain⟨c,h3,rfl⟩:=Bf.1 h2;obtain⟨o0,o1⟩:=ho o h1;obtain⟨c0,c1⟩:=hc c h3;have m0:0<=o*z:=Cd o0 hz;have m1:o*z<=b*z:=Cm o1 hz;omega
theorem aAn(hn:6<=n)(hL:2^60<=L){c1 c2 c3 c4 c5 c6:D}{zs ss:List Int}{l:Int}{ch:Nat->List Int}{bnd:Nat->Int}(hzs:zs.length=ss.length)(hsl:ss.length<=6)
  (kc_c:∀(i:Nat),i<ss.length->∀ {R:Type} {n:Nat} {hq:H} {k:KA R},5<=n->aW env (aA env L n) hq 252 [.agg [.d c1,.d c2,.d c3,.d c4,.d c5,.d c6],nI i,nI (ss.getD i 0),nI l] k=k (.d (.ivs (ch i).length (ints (ch i)))) hq)
  (hz:∀i,i<ss.length->0<zs.getD i 0/\zs.getD i 0<=65536) (hcl:∀i,i<ss.length->(ch i).length<=16) (hcb:∀i,i<ss.length->∀c∈ch i,0<=c/\c<zs.getD i 0) (hbn:∀i,i<ss.length->0<=bnd i/\bnd i*zs.getD i 0<=4294967296/\bnd i*zs.getD i 0+(zs.getD i 0-1)<=bnd (i+1)) {k:KE R}:∀(j i m:Nat) (out:List Int) (len:Nat) (hp:i+j=ss.length) (hm:j<m) (hlen:len=out.length) (ho:out.length<=16^i) (hob:∀o∈out,0<=o/\o<=bnd i),
  aS env (aA env L n) L 0 [] Bz5 (kW 0) (U1 (Z4 (U2 (U1 (Z2 (Z1 (U32 (U16 (U2 (U1 ([]))))))))))) m (Y1 (.d (.ivs zs.length (ints zs))::.d (.ivs ss.length (ints ss))::nI l::.ptr 0 0 0::Y2 (Y1 (.d .nils::.sl 1 0 0 len::nI i::Y32 (Y16 (Y2 (Y1 ([])))))))) [.box [.d c1,.d c2,.d c3,.d c4,.d c5,.d c6],.arr (ints out) 1 0] k
  =k (.exit 0) (Y1 (.d (.ivs zs.length (ints zs))::.d (.ivs ss.length (ints ss))::nI l::.ptr 0 0 0::Y2 (Y1 (.d .nils::.sl 1 0 0 (nexG ch zs j i out).length::nI (ss.length)::Y32 (Y16 (Y2 (Y1 ([])))))))) [.box [.d c1,.d c2,.d c3,.d c4,.d c5,.d c6],.arr (ints (nexG ch zs j i out)) 1 0]:=by
 intro j
 induction j with
 |zero=>
  intro i m out len hp hm hlen ho hob;obtain _|m:=m;omega;obtain rfl:i=ss.length:=om;subst hlen
  simp-implicitDefEqProofs (maxSteps:=9^7) (disch:=try exact Dz) only[↓DN,↓kRet,UP,simprocAttr,Ak,HF,D8,Tryz.f212]<;>rfl
 |succ j ih=>
  intro i m out len hp hm hlen ho hob;obtain _|m:=m;omega;subst hlen;have hk:i<ss.length:=om;have hkz:i<zs.length:=om;have hc:(i:Int)<ss.length:=om;have hi0:(0:Int)<=i:=om;obtain⟨z1,z2⟩:=hz i hk;obtain⟨n0,n1,n2⟩:=hbn i hk;have hch:=hcl i hk;have hcb':=hcb i hk;have p16:(16:Nat)^i<=16^5:=Nat.pow_le_pow_right dc om;have hol:out.length<=1048576:=Bk ho (Bk p16 dc);have kc_d:=fun {R:Type} {n:Nat} {hq:H} {k:KA R} (hn:5<=n)=>kc_c i hk (R:=R) (n:=n) (hq:=hq) (k:=k) hn;have hmul:out.length*(ch i).length<=16777216:=Bk (Nat.mul_le_mul hol hch) dc
  have loop_c:=fun {R n k} hn=> @aAj R L n hn hL c1 c2 c3 c4 c5 c6 zs ss out (ch i) l (zs.getD i 0) i hkz rfl om om om (fun o h=>by
   obtain⟨o0,o1⟩:=hob o h;exact⟨Cd o0 om,Cy (Cm o1 om) n1⟩) (fun c h=>by have:=hcb' c h;omega) k out.length 0 L [] 0 om om rfl (by simp;omega)
  simp only[Ax,Aw,Am,gY]at loop_c;have hb2:=aPC (b2:=bnd (i+1)) om n2 hob hcb'
  have hl2:(mulN out (zs.getD i 0) (ch i)).length<=16^(i+1):=by
   rw[PC,Nat.pow_succ];exact Nat.mul_le_mul ho hch
  have ih':=ih (i+1) m (mulN out (zs.getD i 0) (ch i)) _ om om rfl hl2 hb2;rw[cs1 i]at ih';simp only[nexG];clear ih hb2 hl2 hmul hbn hcb hcl hz kc_c n0 n1 n2 hcb';generalize mulN out (zs.getD i 0) (ch i)=w at *;generalize ch i=chi at *
  simp-implicitDefEqProofs (maxSteps:=9^7) (disch:=try exact Dz) only[↓DN,↓kAsg,↓kRet,UP,simprocAttr,hc,hi0,↓kc_d,↓loop_c,↓ih',HF,D8,Tryz.f212]
theorem aJs(hn:7<=n)(hL:2^60<=L){n1 n2 n3:Nat}{d1 d2 d3:List D}{al kd go:Int}{zs ss:List Int}{l:Int}{ch:Nat->List Int}{bnd:Nat->Int}(hzs:zs.length=ss.length)(hsl:ss.length<=6)
  (kc_c:∀(i:Nat),i<ss.length->∀ {R:Type} {n:Nat} {hq:H} {k:KA R},5<=n->aW env (aA env L n) hq 252 [.agg [.d (.ivs n1 d1),.d (.ivs n2 d2),.d (.ivs n3 d3),nI al,nI kd,nI go],nI i,nI (ss.getD i 0),nI l] k=k (.d (.ivs (ch i).length (ints (ch i)))) hq)
  (hz:∀i,i<ss.length->0<zs.getD i 0/\zs.getD i 0<=65536) (hcl:∀i,i<ss.length->(ch i).length<=16) (hcb:∀i,i<ss.length->∀c∈ch i,0<=c/\c<zs.getD i 0) (hb0:0<=bnd 0) (hbn:∀i,i<ss.length->0<=bnd i/\bnd i*zs.getD i 0<=4294967296/\bnd i*zs.getD i 0+(zs.getD i 0-1)<=bnd (i+1)):
  aA env L n 212 [.agg [.d (.ivs n1 d1),.d (.ivs n2 d2),.d (.ivs n3 d3),nI al,nI kd,nI go],.d (.ivs zs.length (ints zs)),.d (.ivs ss.length (ints ss)),nI l] []=some (.d (.ivs (nexG ch zs ss.length 0 [0]).length (ints (nexG ch zs ss.length 0 [0]))),[]):=by
 have loop_c:=fun {R n k} hn=> @aAn R L n hn hL (.ivs n1 d1) (.ivs n2 d2) (.ivs n3 d3) (.int .i64 al) (.int .i64 kd) (.int .i64 go) zs ss l ch bnd hzs hsl kc_c hz hcl hcb hbn k ss.length 0 L [0] 1 om om rfl sm (fun o h=>by simp at h;subst h;exact⟨Cb _,hb0⟩);simp only[Aw]at loop_c;generalize nexG ch zs ss.length 0 [0]=w at *;have e:ints [0]=[.int .i64 0]:=rfl;rw[e]at loop_c;have e4:(ints w).take w.length=ints w:=eW (Ad _);clear hz hcl hcb hbn kc_c;obtain _|n:=n;omega
 simp-implicitDefEqProofs (maxSteps:=9^7) (disch:=try exact Dz) only[↓DN,↓kAsg,↓kRet,UP,simprocAttr,↓loop_c,e4,aIE,YO,Tryz.f212]
end
end Ev
end Go.Proofs.YtahbdkmimmnadaaGreatDoor
