/-
  A search that visits words in shortlex order finds the first word that leads to a goal: plain laws.
-/
import Derived.Test.YtppffbehejpglaaGreatLeast
set_option linter.unusedSimpArgs false
set_option linter.unusedVariables false
set_option linter.unusedSectionVars false
namespace Go.Proofs.YtppffbehejpglaaGreat
namespace Ev
structure PStep where
 par:Int
 lt:Int
 ns:List Int
instance:Inhabited PStep:=⟨⟨0,0,[]⟩⟩
def visG(gl:Int->Bool):List Int->List Bool->List Int->Bool->List Bool×List Int×Bool
 | [],s,f,b=>(s,f,b)
 |n::ns,s,f,b=>if s.getD n.toNat false=true then visG gl ns s f b else visG gl ns (s.set n.toNat true) (f++[n]) (b||gl n)
def addP(st:List PStep)(p l:Int)(f:List Int):List PStep:=if f=[]then st else st++[⟨p,l,f⟩]
def flat(nx:Int->Int->List Int)(ns:List Int)(l:Int):List Int:=ns.flatMap fun n=>nx n l
def ltG(nx:Int->Int->List Int)(gl:Int->Bool)(ns:List Int)(p:Int):List Int->List Bool×List PStep->Bool×List Bool×List PStep
 | [],q=>(false,q)
 |l::ls,q=>
  if(visG gl (flat nx ns l) q.1 [] false).2.2=true then(true,(visG gl (flat nx ns l) q.1 [] false).1,addP q.2 p l (visG gl (flat nx ns l) q.1 [] false).2.1)
  else ltG nx gl ns p ls ((visG gl (flat nx ns l) q.1 [] false).1,addP q.2 p l (visG gl (flat nx ns l) q.1 [] false).2.1)
def outG(nx:Int->Int->List Int)(gl:Int->Bool)(ls:List Int):Nat->Nat->List Bool×List PStep->Bool×List Bool×List PStep
 |0,_,q=>(false,q)
 |j+1,i,q=>if i<q.2.length then
   (if(ltG nx gl (q.2.getD i default).ns i ls q).1=true then ltG nx gl (q.2.getD i default).ns i ls q
    else outG nx gl ls j (i+1) (ltG nx gl (q.2.getD i default).ns i ls q).2)
  else(false,q)
def gD(st:List PStep):Nat->Nat->List Int
 |0,_=>[]
 |j+1,i=>if 0<=(st.getD i default).par then gD st j (st.getD i default).par.toNat++[(st.getD i default).lt]else []
def F3(nx:Int->Int->List Int)(gl:Int->Bool)(ls start:List Int)(size:Nat):List Int×Bool:=
 if(visG gl start (List.replicate size false) [] false).2.2=true then([],true)
 else if(outG nx gl ls (size+1) 0 ((visG gl start (List.replicate size false) [] false).1,addP [] (-1) 0 (visG gl start (List.replicate size false) [] false).2.1)).1=true then
  (gD (outG nx gl ls (size+1) 0 ((visG gl start (List.replicate size false) [] false).1,addP [] (-1) 0 (visG gl start (List.replicate size false) [] false).2.1)).2.2
   (outG nx gl ls (size+1) 0 ((visG gl start (List.replicate size false) [] false).1,addP [] (-1) 0 (visG gl start (List.replicate size false) [] false).2.1)).2.2.length
   ((outG nx gl ls (size+1) 0 ((visG gl start (List.replicate size false) [] false).1,addP [] (-1) 0 (visG gl start (List.replicate size false) [] false).2.1)).2.2.length-1),true)
 else([],false)
def Sn(s:List Bool)(n:Int):Prop:=s.getD n.toNat false=true
theorem aTb{s:List Bool}{n m:Int}(h0:0<=n)(h1:n<s.length)(hm:0<=m):Sn (s.set n.toNat true) m↔m=n\/Sn s m:=by
 unfold Sn;rw[Aa,Aa,Cj]
 by_cases h:n.toNat=m.toNat
 ·have:m=n:=om;subst this;simp[show m.toNat<s.length by omega]
 ·have:m≠n:=om;simp[h,this]
structure Vis(gl:Int->Bool)(ns:List Int)(s:List Bool)(f:List Int)(b:Bool)(r:List Bool×List Int×Bool):Prop where
 seen:∀m,0<=m->(Sn r.1 m↔Sn s m\/m∈ns)
 new:∀m,m∈r.2.1↔m∈f\/(m∈ns/\¬Sn s m)
 hit:r.2.2=true↔b=true\/∃m,m∈ns/\¬Sn s m/\gl m=true
 cnt:r.2.1.length+r.1.count false=f.length+s.count false
 len:r.1.length=s.length
theorem aDn:∀ {s:List Bool} {k:Nat},s.getD k false=false->k<s.length->(s.set k true).count false+1=s.count false
 | [],k,h,hk=>by simp at hk
 |b::s,0,h,hk=>by
  simp at h;subst h;simp
 |b::s,k+1,h,hk=>by
  have ih:=aDn (s:=s) (k:=k) (by simpa using h) (by simpa using hk);simp only[Bq,List.count_cons];omega
theorem aCx(gl:Int->Bool):∀(ns:List Int) (s:List Bool) (f:List Int) (b:Bool),(∀n∈ns,0<=n/\n<s.length)->Vis gl ns s f b (visG gl ns s f b)
 | [],s,f,b,_=>⟨by simp[visG],by simp[visG],by simp[visG],rfl,rfl⟩
 |n::ns,s,f,b,h=>by
  have h2:=h n Bi;unfold visG
  split
  ·rename_i h1
   have ih:=aCx gl ns s f b fun m hm=>h m (Be _ hm);refine⟨fun m hm=> ?_,fun m=> ?_,?_,ih.cnt,ih.len⟩
   ·rw[ih.seen m hm]
    constructor
    ·rintro(k|k)
     ·exact .inl k
     ·exact .inr (Be _ k)
    ·rintro(k|k)
     ·exact .inl k
     ·rcases Av.1 k with rfl|k
      ·exact .inl h1
      ·exact .inr k
   ·rw[ih.new m]
    constructor
    ·rintro(k|⟨k,k2⟩)
     ·exact .inl k
     ·exact .inr ⟨Be _ k,k2⟩
    ·rintro(k|⟨k,k2⟩)
     ·exact .inl k
     ·rcases Av.1 k with rfl|k
      ·exact(k2 h1).elim
      ·exact .inr ⟨k,k2⟩
   ·rw[ih.hit]
    constructor
    ·rintro(k|⟨m,k,k2⟩)
     ·exact .inl k
     ·exact .inr ⟨m,Be _ k,k2⟩
    ·rintro(k|⟨m,k,k2⟩)
     ·exact .inl k
     ·rcases Av.1 k with rfl|k
      ·exact(k2.1 h1).elim
      ·exact .inr ⟨m,k,k2⟩
  ·rename_i h1
   have ih:=aCx gl ns (s.set n.toNat true) (f++[n]) (b||gl n) fun m hm=>by simpa using h m (Be _ hm)
   have hpos:∀m∈ns,0<=m:=fun m hm=>(h m (Be _ hm)).1;have hs:=fun {m:Int} (hm:0<=m)=>aTb (s:=s) (n:=n) (m:=m) h2.1 h2.2 hm;refine⟨fun m hm=> ?_,fun m=> ?_,?_,?_,?_⟩
   ·rw[ih.seen m hm,hs hm,Av]
    constructor
    ·rintro((k|k)|k)
     ·exact .inr (.inl k)
     ·exact .inl k
     ·exact .inr (.inr k)
    ·rintro(k|k|k)
     ·exact .inl (.inr k)
     ·exact .inl (.inl k)
     ·exact .inr k
   ·rw[ih.new m,Am,Bp,Av]
    constructor
    ·rintro((k|rfl)|⟨k,k2⟩)
     ·exact .inl k
     ·exact .inr ⟨.inl rfl,h1⟩
     ·rw[hs (hpos m k)]at k2;exact .inr ⟨.inr k,fun h3=>k2 (.inr h3)⟩
    ·rintro(k|⟨rfl|k,k2⟩)
     ·exact .inl (.inl k)
     ·exact .inl (.inr rfl)
     ·by_cases hmn:m=n
      ·exact .inl (.inr hmn)
      ·refine .inr ⟨k,fun h3=> ?_⟩;rw[hs (hpos m k)]at h3
       rcases h3 with h3|h3
       ·exact hmn h3
       ·exact k2 h3
   ·rw[ih.hit,Bool.or_eq_true]
    constructor
    ·rintro((k|k)|⟨m,k,k2,k3⟩)
     ·exact .inl k
     ·exact .inr ⟨n,Bi,h1,k⟩
     ·rw[hs (hpos m k)]at k2;exact .inr ⟨m,Be _ k,fun h3=>k2 (.inr h3),k3⟩
    ·rintro(k|⟨m,k,k2,k3⟩)
     ·exact .inl (.inl k)
     ·by_cases hmn:m=n
      ·subst hmn;exact .inl (.inr k3)
      ·rcases Av.1 k with k|k
       ·exact(hmn k).elim
       ·refine .inr ⟨m,k,fun h3=> ?_,k3⟩;rw[hs (hpos m k)]at h3
        rcases h3 with h3|h3
        ·exact hmn h3
        ·exact k2 h3
   ·have:=aDn (s:=s) (k:=n.toNat) (by simpa using h1) om;have hc:=ih.cnt;simp only[Af,Ae,Ac]at hc;omega
   ·have:=ih.len
    simpa using this
section
variable{nx:Int->Int->List Int}{gl:Int->Bool}{ls start:List Int}{size:Nat}
def Asc(l:List Int):Prop:=l.Pairwise (·<·)
structure Mid(nx:Int->Int->List Int)(gl:Int->Bool)(ls start:List Int)(size:Nat)(i:Nat)(ds:List Int)(s:List Bool)(st:List PStep)(W:Nat->List Int):Prop where
 len:s.length=size
 room:st.length+s.count false<=size
 wide:∀k,k<st.length->(st.getD k default).ns.length<=size
 par0:∀k,k<st.length->((st.getD k default).par<0/\W k=[])\/(∃p:Nat,(st.getD k default).par=p/\p<k/\(p<i\/p=i/\(st.getD k default).lt∈ds)/\W k=W p++[(st.getD k default).lt])
 nodes:∀k,k<st.length->∀n∈(st.getD k default).ns,tE nx ls start (W k) n/\Sn s n/\(0<=n/\n<size)
 all:∀n,0<=n->Sn s n->∃k,k<st.length/\n∈(st.getD k default).ns
 asc:∀j k,j<k->k<st.length->slt (W j) (W k)
 least:∀k,k<st.length->∀n∈(st.getD k default).ns,∀w,tE nx ls start w n->¬slt w (W k)
 none:∀n,0<=n->Sn s n->gl n=false
 begun:∀n∈start,Sn s n
 done:∀k,k<st.length->∀p∈(st.getD k default).ns,∀l∈ls,(k<i\/k=i/\l∈ds)->∀m∈nx p l,Sn s m
theorem L7{n:Int}:tE nx ls start [] n↔n∈start:=by
 unfold tE Path
 constructor
 ·rintro⟨s,h,rfl⟩;exact h
 ·intro h;exact⟨n,h,rfl⟩
theorem RR{w:List Int}{l n:Int}:tE nx ls start (w++[l]) n↔l∈ls/\∃m,tE nx ls start w m/\n∈nx m l:=by
 unfold tE
 constructor
 ·rintro⟨s,h,k⟩;obtain⟨h1,m,h2,h3⟩:=aGb.1 k;exact⟨h1,m,⟨s,h,h2⟩,h3⟩
 ·rintro⟨h1,m,⟨s,h,h2⟩,h3⟩;exact⟨s,h,aGb.2 ⟨h1,m,h2,h3⟩⟩
theorem QH(w:List Int):w=[]\/∃u l,w=u++[l]:=by
 rcases List.eq_nil_or_concat w with h|⟨u,l,h⟩
 ·exact .inl h
 ·exact .inr ⟨u,l,by simpa using h⟩
theorem aNO{i:Nat}{ds:List Int}{l:Int}{rs:List Int}{s:List Bool}{st:List PStep}{W:Nat->List Int}(hm:Mid nx gl ls start size i ds s st W)(hi:i<st.length)(hls:ls=ds++l::rs)(ha:Asc ls)(hnx:∀p c:Int,0<=p->p<size->c∈ls->∀m∈nx p c,0<=m/\m<size)(hst:∀n∈start,0<=n/\n<size):
  ∀(q:Nat) (w:List Int),w.length=q->slt w (W i++[l])->∀n,tE nx ls start w n->Sn s n/\(0<=n/\n<size):=by
 intro q
 induction q with
 |zero=>
  intro w hw hlt n hc;have:w=[]:=Bs.1 hw;subst this;have:=L7.1 hc;exact⟨hm.begun n this,hst n this⟩
 |succ q ih=>
  intro w hw hlt n hc
  rcases QH w with rfl|⟨u,c,rfl⟩
  ·simp at hw
  obtain⟨hcl,p,hp,hn⟩:=RR.1 hc;have hul:u.length=q:=by simpa using hw
  have hu:slt u (W i++[l]):=LZ (.inl sm) hlt;obtain⟨hps,hpr⟩:=ih u hul hu p hp;refine⟨?_,hnx p c hpr.1 hpr.2 hcl n hn⟩;obtain⟨k,hk,hpk⟩:=hm.all p hpr.1 hps;have hle:=hm.least k hk p hpk u hp;have h2:=RF.1 hlt;refine hm.done k hk p hpk c hcl ?_ n hn
  rcases Dd k i with h|h|h
  ·exact .inl h
  ·subst h;refine .inr ⟨rfl,?_⟩
   rcases h2 with h2|⟨_,h2⟩
   ·exact(hle h2).elim
   ·rw[hls]at hcl ha
    rcases Am.1 hcl with h3|h3
    ·exact h3
    ·exfalso
     rcases Av.1 h3 with h4|h4
     ·omega
     ·have h5:=List.pairwise_append.1 ha;have:=(List.pairwise_cons.1 h5.2.1).1 c h4;omega
  ·exfalso;have h3:=hm.asc i k h hk
   rcases h2 with h2|⟨h2,_⟩
   ·exact hle (LZ h2 h3)
   ·subst h2;exact hle h3
theorem kT{α:Type}{l m:List α}{i:Nat}{d:α}(h:i<l.length):(l++m).getD i d=l.getD i d:=by
 rw[Aa,Aa,Bc h]
theorem WB{α:Type}{l:List α}{x d:α}:(l++[x]).getD l.length d=x:=by
 rw[Aa,Bn (Ab _)];simp
theorem aSW{i:Nat}{ds:List Int}{s:List Bool}{st:List PStep}{W:Nat->List Int}(hm:Mid nx gl ls start size i ds s st W):∀(j k:Nat),k<j->k<st.length->gD st j k=W k:=by
 intro j
 induction j with
 |zero=>intro k hk;omega
 |succ j ih=>
  intro k hk hl;unfold gD
  rcases hm.par0 k hl with⟨h1,h2⟩|⟨p,h1,h2,_,h3⟩
  ·rw[if_neg om,h2]
  ·rw[if_pos om,h1,Cn,ih p om om,h3]
theorem aP4{i:Nat}{ds:List Int}{l:Int}{rs:List Int}{s:List Bool}{st:List PStep}{W:Nat->List Int}(hm:Mid nx gl ls start size i ds s st W)(hi:i<st.length)(hls:ls=ds++l::rs)(ha:Asc ls)(hnx:∀p c:Int,0<=p->p<size->c∈ls->∀m∈nx p c,0<=m/\m<size)(hst:∀n∈start,0<=n/\n<size):
  ((visG gl (flat nx (st.getD i default).ns l) s [] false).2.2=true->Q2 (Hits nx ls start gl) (W i++[l])/\(visG gl (flat nx (st.getD i default).ns l) s [] false).2.1≠[])/\
  ((visG gl (flat nx (st.getD i default).ns l) s [] false).2.2≠true->∃W',Mid nx gl ls start size i (ds++[l]) (visG gl (flat nx (st.getD i default).ns l) s [] false).1 (addP st i l (visG gl (flat nx (st.getD i default).ns l) s [] false).2.1) W'):=by
 have hll:l∈ls:=by rw[hls];simp
 have hreach:∀n∈flat nx (st.getD i default).ns l,tE nx ls start (W i++[l]) n/\(0<=n/\n<size):=by
  intro n hn;obtain⟨p,hp,hpn⟩:=Eb.1 hn;obtain⟨h1,_,h3⟩:=hm.nodes i hi p hp;exact⟨RR.2 ⟨hll,p,h1,hpn⟩,hnx p l h3.1 h3.2 hll n hpn⟩
 have hv:=aCx gl (flat nx (st.getD i default).ns l) s [] false fun n hn=>by rw[hm.len];exact(hreach n hn).2
 have hbef:=fun w=>aNO hm hi hls ha hnx hst w.length w rfl;generalize hns:flat nx (st.getD i default).ns l=ns at *;generalize hr:visG gl ns s [] false=r at *;obtain⟨s2,f,b⟩:=r;have v1:=hv.seen;have v2:∀m,m∈f↔m∈ns/\¬Sn s m:=fun m=>by have:=hv.new m;simpa using this
 have v3:b=true↔∃m,m∈ns/\¬Sn s m/\gl m=true:=by have:=hv.hit;simpa using this
 have v4:f.length+s2.count false=s.count false:=by have:=hv.cnt;simpa using this
 have v5:s2.length=s.length:=hv.len;simp only at v1|-
 constructor
 ·intro hb;obtain⟨m,h1,h2,h3⟩:=v3.1 hb;refine⟨⟨⟨m,(hreach m h1).1,h3⟩,?_⟩,?_⟩
  ·rintro x ⟨u,hu,hg⟩ hlt;obtain⟨k1,k2⟩:=hbef x hlt u hu;rw[hm.none u k2.1 k1]at hg;cases hg
  ·intro hf;have:=(v2 m).2 ⟨h1,h2⟩;rw[hf]at this;cases this
 ·intro hb
  have hnone:∀n,0<=n->Sn s2 n->gl n=false:=by
   intro n hn hs
   rcases(v1 n hn).1 hs with h|h
   ·exact hm.none n hn h
   ·by_cases hs0:Sn s n
    ·exact hm.none n hn hs0
    ·cases hg:gl n with
     |false=>rfl
     |true=>exact(hb (v3.2 ⟨n,h,hs0,hg⟩)).elim
  have hsn:∀n,0<=n->Sn s n->Sn s2 n:=fun n hn h=>(v1 n hn).2 (.inl h)
  have hdone:∀p∈(st.getD i default).ns,∀m∈nx p l,Sn s2 m:=by
   intro p hp m hmm;have:m∈ns:=by rw[<-hns];exact Eb.2 ⟨p,hp,hmm⟩
   exact(v1 m (hreach m this).2.1).2 (.inr this)
  unfold addP
  by_cases hf:f=[]
  ·rw[if_pos hf];subst hf;refine⟨W,⟨by rw[v5,hm.len],by have:=hm.room;simp at v4;omega,hm.wide,?_,?_,?_,hm.asc,hm.least,hnone,?_,?_⟩⟩
   ·intro k hk
    rcases hm.par0 k hk with h|⟨p,h1,h2,h3,h4⟩
    ·exact .inl h
    ·refine .inr ⟨p,h1,h2,?_,h4⟩
     rcases h3 with h3|⟨h3,h5⟩
     ·exact .inl h3
     ·exact .inr ⟨h3,List.mem_append_left _ h5⟩
   ·intro k hk n hn;obtain⟨h1,h2,h3⟩:=hm.nodes k hk n hn;exact⟨h1,hsn n h3.1 h2,h3⟩
   ·intro n hn hs
    rcases(v1 n hn).1 hs with h|h
    ·exact hm.all n hn h
    ·by_cases hs0:Sn s n
     ·exact hm.all n hn hs0
     ·have:=(v2 n).2 ⟨h,hs0⟩;cases this
   ·intro n hn;exact hsn n (hst n hn).1 (hm.begun n hn)
   ·intro k hk p hp c hc hor m hmm;have hpr:=(hm.nodes k hk p hp).2.2;have hmr:=hnx p c hpr.1 hpr.2 hc m hmm
    rcases hor with h|⟨h,h2⟩
    ·exact hsn m hmr.1 (hm.done k hk p hp c hc (.inl h) m hmm)
    ·rcases Am.1 h2 with h3|h3
     ·exact hsn m hmr.1 (hm.done k hk p hp c hc (.inr ⟨h,h3⟩) m hmm)
     ·simp at h3;subst h3;subst h;exact hdone p hp m hmm
  ·rw[if_neg hf];have hfl:0<f.length:=Ee.2 hf;refine⟨fun k=>if k=st.length then W i++[l]else W k,?_⟩;have hold:∀k,k<st.length->(st++[(⟨i,l,f⟩:PStep)]).getD k default=st.getD k default:=fun k hk=>kT hk;have hnew:(st++[(⟨i,l,f⟩:PStep)]).getD st.length default=⟨i,l,f⟩:=WB;have hlen:(st++[(⟨i,l,f⟩:PStep)]).length=st.length+1:=sm
   have hmax:∀k,k<st.length->slt (W k) (W i++[l]):=by
    intro k hk
    rcases hm.par0 k hk with⟨_,h⟩|⟨p,h1,h2,h3,h4⟩
    ·rw[h];exact .inl sm
    ·rw[h4,RF]
     rcases h3 with h3|⟨h3,h5⟩
     ·exact .inl (hm.asc p i h3 hi)
     ·subst h3;refine .inr ⟨rfl,?_⟩;rw[hls]at ha;have h6:=List.pairwise_append.1 ha;exact h6.2.2 _ h5 l Bi
   refine⟨by rw[v5,hm.len],by have:=hm.room;rw[hlen];omega,?_,?_,?_,?_,?_,?_,hnone,?_,?_⟩
   ·intro k hk;rw[hlen]at hk
    by_cases h:k<st.length
    ·rw[hold k h];exact hm.wide k h
    ·obtain rfl:k=st.length:=om;rw[hnew];have:=List.count_le_length (a:=false) (l:=s);have:=hm.len;show f.length<=size;omega
   ·intro k hk;rw[hlen]at hk
    by_cases h:k<st.length
    ·rw[hold k h];simp only[show k≠st.length by omega,if_false]
     rcases hm.par0 k h with h0|⟨p,h1,h2,h3,h4⟩
     ·exact .inl h0
     ·refine .inr ⟨p,h1,h2,?_,?_⟩
      ·rcases h3 with h3|⟨h3,h5⟩
       ·exact .inl h3
       ·exact .inr ⟨h3,List.mem_append_left _ h5⟩
      ·rw[if_neg om];exact h4
    ·obtain rfl:k=st.length:=om;rw[hnew];refine .inr ⟨i,rfl,hi,.inr ⟨rfl,by simp⟩,?_⟩;simp only[if_true];rw[if_neg om]
   ·intro k hk n hn;rw[hlen]at hk
    by_cases h:k<st.length
    ·rw[hold k h]at hn;obtain⟨h1,h2,h3⟩:=hm.nodes k h n hn;simp only[show k≠st.length by omega,if_false];exact⟨h1,hsn n h3.1 h2,h3⟩
    ·obtain rfl:k=st.length:=om;rw[hnew]at hn;have h1:=((v2 n).1 hn).1;have h2:=hreach n h1;simp only[if_true];exact⟨h2.1,(v1 n h2.2.1).2 (.inr h1),h2.2⟩
   ·intro n hn hs
    by_cases hs0:Sn s n
    ·obtain⟨k,hk,h1⟩:=hm.all n hn hs0;exact⟨k,by omega,by rw[hold k hk];exact h1⟩
    ·rcases(v1 n hn).1 hs with h|h
     ·exact(hs0 h).elim
     ·exact⟨st.length,by omega,by rw[hnew];exact(v2 n).2 ⟨h,hs0⟩⟩
   ·intro j k hjk hk;rw[hlen]at hk
    by_cases h:k<st.length
    ·simp only[show k≠st.length by omega,show j≠st.length by omega,if_false];exact hm.asc j k hjk h
    ·obtain rfl:k=st.length:=om;simp only[show j≠st.length by omega,if_false,if_true];exact hmax j hjk
   ·intro k hk n hn w hw;rw[hlen]at hk
    by_cases h:k<st.length
    ·rw[hold k h]at hn;simp only[show k≠st.length by omega,if_false];exact hm.least k h n hn w hw
    ·obtain rfl:k=st.length:=om;rw[hnew]at hn;simp only[if_true];intro hlt;exact((v2 n).1 hn).2 (hbef w hlt n hw).1
   ·intro n hn;exact hsn n (hst n hn).1 (hm.begun n hn)
   ·intro k hk p hp c hc hor m hmm;rw[hlen]at hk
    by_cases h:k<st.length
    ·rw[hold k h]at hp;have hpr:=(hm.nodes k h p hp).2.2;have hmr:=hnx p c hpr.1 hpr.2 hc m hmm
     rcases hor with h1|⟨h1,h2⟩
     ·exact hsn m hmr.1 (hm.done k h p hp c hc (.inl h1) m hmm)
     ·rcases Am.1 h2 with h3|h3
      ·exact hsn m hmr.1 (hm.done k h p hp c hc (.inr ⟨h1,h3⟩) m hmm)
      ·simp at h3;subst h3;subst h1;exact hdone p hp m hmm
    ·exfalso;omega
theorem aK4{i:Nat}(ha:Asc ls)(hnx:∀p c:Int,0<=p->p<size->c∈ls->∀m∈nx p c,0<=m/\m<size)(hst:∀n∈start,0<=n/\n<size){ns:List Int}:∀(rs ds:List Int) (s:List Bool) (st:List PStep) (W:Nat->List Int),Mid nx gl ls start size i ds s st W->i<st.length->ls=ds++rs->ns=(st.getD i default).ns->
  ((ltG nx gl ns i rs (s,st)).1=true->Q2 (Hits nx ls start gl) (gD (ltG nx gl ns i rs (s,st)).2.2 (ltG nx gl ns i rs (s,st)).2.2.length ((ltG nx gl ns i rs (s,st)).2.2.length-1)))/\
  ((ltG nx gl ns i rs (s,st)).1≠true->st.length<=(ltG nx gl ns i rs (s,st)).2.2.length/\∃W',Mid nx gl ls start size (i+1) [] (ltG nx gl ns i rs (s,st)).2.1 (ltG nx gl ns i rs (s,st)).2.2 W'):=by
 intro rs
 induction rs with
 |nil=>
  intro ds s st W hm hi hls hns;simp only[Aj]at hls;subst hls;refine⟨fun h=>by simp[ltG]at h,fun _=>⟨Ab _,W,hm.len,hm.room,hm.wide,?_,hm.nodes,hm.all,hm.asc,hm.least,hm.none,hm.begun,?_⟩⟩
  ·intro k hk
   rcases hm.par0 k hk with h0|⟨p,h1,h2,h3,h4⟩
   ·exact .inl h0
   ·exact .inr ⟨p,h1,h2,.inl om,h4⟩
  ·intro k hk p hp l hl hor m hmm
   rcases hor with h|⟨_,h⟩
   ·exact hm.done k hk p hp l hl (by by_cases hki:k=i;exact .inr ⟨hki,hl⟩;exact .inl om) m hmm
   ·cases h
 |cons l rs ih=>
  intro ds s st W hm hi hls hns;obtain⟨h1,h2⟩:=aP4 hm hi hls ha hnx hst;rw[<-hns]at h1 h2;simp only[ltG]
  by_cases hb:(visG gl (flat nx ns l) s [] false).2.2=true
  ·simp only[hb,if_true];refine⟨fun _=> ?_,fun h=>(h rfl).elim⟩;obtain⟨k1,k2⟩:=h1 hb;unfold addP;rw[if_neg k2];simp only[Af,Ae,Ac,Ag,Nat.add_sub_cancel]
   have hw:gD (st++[⟨i,l,(visG gl (flat nx ns l) s [] false).2.1⟩]) (st.length+1) st.length=W i++[l]:=by
    unfold gD;rw[WB];simp only[Cn];rw[if_pos om]
    congr 1
    have hpre:∀(j k:Nat),k<j->k<st.length->∀x,gD (st++[x]) j k=gD st j k:=by
     intro j
     induction j with
     |zero=>intro k hk;omega
     |succ j ihj=>
      intro k hk hl x;unfold gD;rw[kT hl]
      rcases hm.par0 k hl with⟨h1,h2⟩|⟨p,h1,h2,_,h3⟩
      ·rw[if_neg om,if_neg om]
      ·rw[if_pos om,if_pos om,h1,Cn,ihj p om om]
    rw[hpre _ _ hi hi,aSW hm _ _ hi hi]
   rw[hw];exact k1
  ·simp only[hb];obtain⟨W',hm'⟩:=h2 hb
   have hle:st.length<=(addP st i l (visG gl (flat nx ns l) s [] false).2.1).length:=by
    unfold addP;split<;>simp
   have hget:ns=((addP st i l (visG gl (flat nx ns l) s [] false).2.1).getD i default).ns:=by
    rw[hns];unfold addP
    split
    ·rfl
    ·rw[kT hi]
   obtain⟨g1,g2⟩:=ih (ds++[l]) _ _ W' hm' om (by rw[hls];simp) hget;exact⟨g1,fun h=>⟨By hle (g2 h).1,(g2 h).2⟩⟩
theorem aOl(ha:Asc ls)(hnx:∀p c:Int,0<=p->p<size->c∈ls->∀m∈nx p c,0<=m/\m<size)(hst:∀n∈start,0<=n/\n<size):∀(j i:Nat) (s:List Bool) (st:List PStep) (W:Nat->List Int),Mid nx gl ls start size i [] s st W->i<=st.length->size+1<=i+j->
  ((outG nx gl ls j i (s,st)).1=true->Q2 (Hits nx ls start gl) (gD (outG nx gl ls j i (s,st)).2.2 (outG nx gl ls j i (s,st)).2.2.length ((outG nx gl ls j i (s,st)).2.2.length-1)))/\
  ((outG nx gl ls j i (s,st)).1≠true->∀w,¬Hits nx ls start gl w):=by
 have fin:∀(i:Nat) (s:List Bool) (st:List PStep) (W:Nat->List Int),Mid nx gl ls start size i [] s st W->¬i<st.length->∀w,¬Hits nx ls start gl w:=by
  intro i s st W hm hi w
  have key:∀(q:Nat) (w:List Int),w.length=q->∀n,tE nx ls start w n->Sn s n/\(0<=n/\n<size):=by
   intro q
   induction q with
   |zero=>
    intro w hw n hc;have:w=[]:=Bs.1 hw;subst this;have:=L7.1 hc;exact⟨hm.begun n this,hst n this⟩
   |succ q ih=>
    intro w hw n hc
    rcases QH w with rfl|⟨u,c,rfl⟩
    ·simp at hw
    obtain⟨hcl,p,hp,hn⟩:=RR.1 hc;obtain⟨h1,h2⟩:=ih u (by simpa using hw) p hp;obtain⟨k,hk,hpk⟩:=hm.all p h2.1 h1;exact⟨hm.done k hk p hpk c hcl (.inl om) n hn,hnx p c h2.1 h2.2 hcl n hn⟩
  rintro⟨u,hu,hg⟩;obtain⟨h1,h2⟩:=key w.length w rfl u hu;rw[hm.none u h2.1 h1]at hg;cases hg
 intro j
 induction j with
 |zero=>
  intro i s st W hm hi hj;have:=hm.room;exfalso;omega
 |succ j ih=>
  intro i s st W hm hi hj;simp only[outG]
  by_cases hlt:i<st.length
  ·simp only[hlt,if_true];obtain⟨h1,h2⟩:=aK4 (ns:=(st.getD i default).ns) ha hnx hst ls [] s st W hm hlt rfl rfl
   by_cases hb:(ltG nx gl (st.getD i default).ns i ls (s,st)).1=true
   ·simp only[hb,if_true];exact⟨fun _=>h1 hb,fun h=>(h rfl).elim⟩
   ·simp only[hb];obtain⟨h3,W',hm'⟩:=h2 hb;exact ih (i+1) _ _ W' hm' (By hlt h3) om
  ·rw[if_neg hlt];exact⟨fun h=>Bool.noConfusion h,fun _=>fin i s st W hm hlt⟩
theorem aFp(ha:Asc ls)(hnx:∀p c:Int,0<=p->p<size->c∈ls->∀m∈nx p c,0<=m/\m<size)(hst:∀n∈start,0<=n/\n<size)(hne:start≠[]):GG (Hits nx ls start gl) (F3 nx gl ls start size):=by
 have hz:∀n,¬Sn (List.replicate size false) n:=by
  intro n;unfold Sn;rw[Aa,List.getElem?_replicate]
  split<;>simp
 have hv:=aCx gl start (List.replicate size false) [] false fun n hn=>by simpa using hst n hn
 unfold F3;generalize visG gl start (List.replicate size false) [] false=r at *;obtain⟨s2,f,b⟩:=r;have v1:∀m,0<=m->(Sn s2 m↔m∈start):=fun m hm=>by have:=hv.seen m hm;simp only[hz,false_or]at this;exact this
 have v2:∀m,m∈f↔m∈start:=fun m=>by have:=hv.new m;simpa [hz]using this
 have v3:b=true↔∃m,m∈start/\gl m=true:=by have:=hv.hit;simpa [hz]using this
 have v4:f.length+s2.count false=size:=by have:=hv.cnt;simpa using this
 have v5:s2.length=size:=by have:=hv.len;simpa using this
 simp only
 by_cases hb:b=true
 ·rw[if_pos hb];obtain⟨m,h1,h2⟩:=v3.1 hb;refine .inl ⟨rfl,⟨m,L7.2 h1,h2⟩,fun x _ hx=> ?_⟩
  rcases hx with hx|⟨hx,hy⟩
  ·simp at hx
  ·have:x=[]:=Bs.1 (by simpa using hx);subst this;exact hy
 ·rw[if_neg hb]
  have hf:f≠[]:=by
   intro h;apply hne
   cases start with
   |nil=>rfl
   |cons a az=>
    have:=(v2 a).2 Bi;rw[h]at this;cases this
  have hfl:0<f.length:=Ee.2 hf;have hst1:addP [] (-1) 0 f=[⟨-1,0,f⟩]:=by unfold addP;rw[if_neg hf];rfl
  rw[hst1]
  have hm:Mid nx gl ls start size 0 [] s2 [⟨-1,0,f⟩] (fun _=>[]):=by
   refine⟨v5,by simp;omega,?_,?_,?_,?_,?_,?_,?_,?_,?_⟩
   ·intro k hk;obtain rfl:k=0:=by simpa using hk
    show f.length<=size;omega
   ·intro k hk;obtain rfl:k=0:=by simpa using hk
    exact .inl ⟨by show(-1:Int)<0;decide,rfl⟩
   ·intro k hk n hn;obtain rfl:k=0:=by simpa using hk
    have h1:=(v2 n).1 hn;have h2:=hst n h1;exact⟨L7.2 h1,(v1 n h2.1).2 h1,h2⟩
   ·intro n hn hs;exact⟨0,by simp,(v2 n).2 ((v1 n hn).1 hs)⟩
   ·intro j k hjk hk;simp at hk;omega
   ·intro k hk n hn w hw hlt
    rcases hlt with h|⟨h,h2⟩
    ·simp at h
    ·have:w=[]:=Bs.1 (by simpa using h);subst this;exact h2
   ·intro n hn hs
    cases hg:gl n with
    |false=>rfl
    |true=>exact(hb (v3.2 ⟨n,(v1 n hn).1 hs,hg⟩)).elim
   ·intro n hn;exact(v1 n (hst n hn).1).2 hn
   ·intro k hk p hp l hl hor m hmm;obtain rfl:k=0:=by simpa using hk
    rcases hor with h|⟨_,h⟩
    ·omega
    ·cases h
  obtain⟨g1,g2⟩:=aOl ha hnx hst (size+1) 0 s2 [⟨-1,0,f⟩] _ hm sm om
  by_cases ho:(outG nx gl ls (size+1) 0 (s2,[⟨-1,0,f⟩])).1=true
  ·rw[if_pos ho];exact .inl ⟨rfl,g1 ho⟩
  ·rw[if_neg ho];exact .inr ⟨rfl,g2 ho⟩
end
end Ev
end Go.Proofs.YtppffbehejpglaaGreat
