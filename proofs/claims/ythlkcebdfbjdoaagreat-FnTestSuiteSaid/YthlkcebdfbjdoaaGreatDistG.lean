/-
  A search that visits words in shortlex order finds the first word that leads to a goal: plain laws.
-/
import Derived.Test.YthlkcebdfbjdoaaGreatLeast
import Derived.Test.YthlkcebdfbjdoaaGreatDrawR
import Derived.Test.YthlkcebdfbjdoaaGreatAutoL
import Derived.Test.YthlkcebdfbjdoaaGreatSortLayX
import Derived.Test.YthlkcebdfbjdoaaGreatMemD
set_option linter.unusedSimpArgs false
set_option linter.unusedVariables false
set_option maxRecDepth 8000
set_option maxHeartbeats 4000000
namespace Go.Proofs.YthlkcebdfbjdoaaGreat
namespace Ev
section
structure PStep where
 par:Int
 lt:Int
 ns:List Int
instance:Inhabited PStep:=⟨⟨0,0,[]⟩⟩
def visG(gl:Int->Bool):List Int->List Bool->List Int->Bool->List Bool×List Int×Bool
 | [],s,f,b=>(s,f,b)
 |n::ns,s,f,b=>if s.getD n.toNat false=true then visG gl ns s f b else visG gl ns (s.set n.toNat true) (f++[n]) (b||gl n)
def addP(st:List PStep)(p l:Int)(f:List Int):List PStep:=if f=[]then st else st++[⟨p,l,f⟩]
def flat(nx:Int->Int->List Int)(ns:List Int)(l:Int):List Int:=ns.flatMap fun n=>nx n l
def ltG(nx:Int->Int->List Int)(gl:Int->Bool)(ns:List Int)(p:Int):List Int->List Bool×List PStep->Bool×List Bool×List PStep
 | [],q=>(false,q)
 |l::ls,q=>
  if(visG gl (flat nx ns l) q.1 [] false).2.2=true then(true,(visG gl (flat nx ns l) q.1 [] false).1,addP q.2 p l (visG gl (flat nx ns l) q.1 [] false).2.1)
  else ltG nx gl ns p ls ((visG gl (flat nx ns l) q.1 [] false).1,addP q.2 p l (visG gl (flat nx ns l) q.1 [] false).2.1)
def outG(nx:Int->Int->List Int)(gl:Int->Bool)(ls:List Int):Nat->Nat->List Bool×List PStep->Bool×List Bool×List PStep
 |0,_,q=>(false,q)
 |j+1,i,q=>if i<q.2.length then
   (if(ltG nx gl (q.2.getD i default).ns i ls q).1=true then ltG nx gl (q.2.getD i default).ns i ls q
    else outG nx gl ls j (i+1) (ltG nx gl (q.2.getD i default).ns i ls q).2)
  else(false,q)
def gX(st:List PStep):Nat->Nat->List Int
 |0,_=>[]
 |j+1,i=>if 0<=(st.getD i default).par then gX st j (st.getD i default).par.toNat++[(st.getD i default).lt]else []
def FR(nx:Int->Int->List Int)(gl:Int->Bool)(ls start:List Int)(size:Nat):List Int×Bool:=
 if(visG gl start (List.replicate size false) [] false).2.2=true then([],true)
 else if(outG nx gl ls (size+1) 0 ((visG gl start (List.replicate size false) [] false).1,addP [] (-1) 0 (visG gl start (List.replicate size false) [] false).2.1)).1=true then
  (gX (outG nx gl ls (size+1) 0 ((visG gl start (List.replicate size false) [] false).1,addP [] (-1) 0 (visG gl start (List.replicate size false) [] false).2.1)).2.2
   (outG nx gl ls (size+1) 0 ((visG gl start (List.replicate size false) [] false).1,addP [] (-1) 0 (visG gl start (List.replicate size false) [] false).2.1)).2.2.length
   ((outG nx gl ls (size+1) 0 ((visG gl start (List.replicate size false) [] false).1,addP [] (-1) 0 (visG gl start (List.replicate size false) [] false).2.1)).2.2.length-1),true)
 else([],false)
def Sn(s:List Bool)(n:Int):Prop:=s.getD n.toNat false=true
theorem aUx{s:List Bool}{n m:Int}(h0:0<=n)(h1:n<s.length)(hm:0<=m):Sn (s.set n.toNat true) m↔m=n\/Sn s m:=by
 unfold Sn;rw[Aa,Aa,Ch]
 by_cases h:n.toNat=m.toNat
 ·have:m=n:=by omega
  subst this;simp[show m.toNat<s.length by omega]
 ·have:m≠n:=by omega
  simp[h,this]
structure Vis(gl:Int->Bool)(ns:List Int)(s:List Bool)(f:List Int)(b:Bool)(r:List Bool×List Int×Bool):Prop where
 seen:∀m,0<=m->(Sn r.1 m↔Sn s m\/m∈ns)
 new:∀m,m∈r.2.1↔m∈f\/(m∈ns/\¬Sn s m)
 hit:r.2.2=true↔b=true\/∃m,m∈ns/\¬Sn s m/\gl m=true
 cnt:r.2.1.length+r.1.count false=f.length+s.count false
 len:r.1.length=s.length
theorem aCW:∀ {s:List Bool} {k:Nat},s.getD k false=false->k<s.length->(s.set k true).count false+1=s.count false
 | [],k,h,hk=>by simp at hk
 |b::s,0,h,hk=>by
  simp at h;subst h;simp
 |b::s,k+1,h,hk=>by
  have ih:=aCW (s:=s) (k:=k) (by simpa using h) (by simpa using hk);simp only[Bn,List.count_cons];omega
theorem aBt(gl:Int->Bool):∀(ns:List Int) (s:List Bool) (f:List Int) (b:Bool),(∀n∈ns,0<=n/\n<s.length)->Vis gl ns s f b (visG gl ns s f b)
 | [],s,f,b,_=>⟨by simp[visG],by simp[visG],by simp[visG],rfl,rfl⟩
 |n::ns,s,f,b,h=>by
  have h2:=h n Bi;unfold visG
  split
  ·rename_i h1
   have ih:=aBt gl ns s f b fun m hm=>h m (Be _ hm);refine⟨fun m hm=> ?_,fun m=> ?_,?_,ih.cnt,ih.len⟩
   ·rw[ih.seen m hm]
    constructor
    ·rintro(k|k)
     ·exact .inl k
     ·exact .inr (Be _ k)
    ·rintro(k|k)
     ·exact .inl k
     ·rcases Au.1 k with rfl|k
      ·exact .inl h1
      ·exact .inr k
   ·rw[ih.new m]
    constructor
    ·rintro(k|⟨k,k2⟩)
     ·exact .inl k
     ·exact .inr ⟨Be _ k,k2⟩
    ·rintro(k|⟨k,k2⟩)
     ·exact .inl k
     ·rcases Au.1 k with rfl|k
      ·exact(k2 h1).elim
      ·exact .inr ⟨k,k2⟩
   ·rw[ih.hit]
    constructor
    ·rintro(k|⟨m,k,k2⟩)
     ·exact .inl k
     ·exact .inr ⟨m,Be _ k,k2⟩
    ·rintro(k|⟨m,k,k2⟩)
     ·exact .inl k
     ·rcases Au.1 k with rfl|k
      ·exact(k2.1 h1).elim
      ·exact .inr ⟨m,k,k2⟩
  ·rename_i h1
   have ih:=aBt gl ns (s.set n.toNat true) (f++[n]) (b||gl n) fun m hm=>by simpa using h m (Be _ hm)
   have hpos:∀m∈ns,0<=m:=fun m hm=>(h m (Be _ hm)).1;have hs:=fun {m:Int} (hm:0<=m)=>aUx (s:=s) (n:=n) (m:=m) h2.1 h2.2 hm;refine⟨fun m hm=> ?_,fun m=> ?_,?_,?_,?_⟩
   ·rw[ih.seen m hm,hs hm,Au]
    constructor
    ·rintro((k|k)|k)
     ·exact .inr (.inl k)
     ·exact .inl k
     ·exact .inr (.inr k)
    ·rintro(k|k|k)
     ·exact .inl (.inr k)
     ·exact .inl (.inl k)
     ·exact .inr k
   ·rw[ih.new m,Al,Bk,Au]
    constructor
    ·rintro((k|rfl)|⟨k,k2⟩)
     ·exact .inl k
     ·exact .inr ⟨.inl rfl,h1⟩
     ·rw[hs (hpos m k)]at k2;exact .inr ⟨.inr k,fun h3=>k2 (.inr h3)⟩
    ·rintro(k|⟨rfl|k,k2⟩)
     ·exact .inl (.inl k)
     ·exact .inl (.inr rfl)
     ·by_cases hmn:m=n
      ·exact .inl (.inr hmn)
      ·refine .inr ⟨k,fun h3=> ?_⟩;rw[hs (hpos m k)]at h3
       rcases h3 with h3|h3
       ·exact hmn h3
       ·exact k2 h3
   ·rw[ih.hit,Bool.or_eq_true]
    constructor
    ·rintro((k|k)|⟨m,k,k2,k3⟩)
     ·exact .inl k
     ·exact .inr ⟨n,Bi,h1,k⟩
     ·rw[hs (hpos m k)]at k2;exact .inr ⟨m,Be _ k,fun h3=>k2 (.inr h3),k3⟩
    ·rintro(k|⟨m,k,k2,k3⟩)
     ·exact .inl (.inl k)
     ·by_cases hmn:m=n
      ·subst hmn;exact .inl (.inr k3)
      ·rcases Au.1 k with k|k
       ·exact(hmn k).elim
       ·refine .inr ⟨m,k,fun h3=> ?_,k3⟩;rw[hs (hpos m k)]at h3
        rcases h3 with h3|h3
        ·exact hmn h3
        ·exact k2 h3
   ·have:=aCW (s:=s) (k:=n.toNat) (by simpa using h1) (by omega);have hc:=ih.cnt;simp only[Af,Ad,Ac]at hc;omega
   ·have:=ih.len
    simpa using this
section
variable{nx:Int->Int->List Int}{gl:Int->Bool}{ls start:List Int}{size:Nat}
def Asc(l:List Int):Prop:=l.Pairwise (·<·)
structure Mid(nx:Int->Int->List Int)(gl:Int->Bool)(ls start:List Int)(size:Nat)(i:Nat)(ds:List Int)(s:List Bool)(st:List PStep)(W:Nat->List Int):Prop where
 len:s.length=size
 room:st.length+s.count false<=size
 wide:∀k,k<st.length->(st.getD k default).ns.length<=size
 par0:∀k,k<st.length->((st.getD k default).par<0/\W k=[])\/(∃p:Nat,(st.getD k default).par=p/\p<k/\(p<i\/p=i/\(st.getD k default).lt∈ds)/\W k=W p++[(st.getD k default).lt])
 nodes:∀k,k<st.length->∀n∈(st.getD k default).ns,tH nx ls start (W k) n/\Sn s n/\(0<=n/\n<size)
 all:∀n,0<=n->Sn s n->∃k,k<st.length/\n∈(st.getD k default).ns
 asc:∀j k,j<k->k<st.length->slt (W j) (W k)
 least:∀k,k<st.length->∀n∈(st.getD k default).ns,∀w,tH nx ls start w n->¬slt w (W k)
 none:∀n,0<=n->Sn s n->gl n=false
 begun:∀n∈start,Sn s n
 done:∀k,k<st.length->∀p∈(st.getD k default).ns,∀l∈ls,(k<i\/k=i/\l∈ds)->∀m∈nx p l,Sn s m
theorem KO{n:Int}:tH nx ls start [] n↔n∈start:=by
 unfold tH Path
 constructor
 ·rintro⟨s,h,rfl⟩;exact h
 ·intro h;exact⟨n,h,rfl⟩
theorem PK{w:List Int}{l n:Int}:tH nx ls start (w++[l]) n↔l∈ls/\∃m,tH nx ls start w m/\n∈nx m l:=by
 unfold tH
 constructor
 ·rintro⟨s,h,k⟩;obtain⟨h1,m,h2,h3⟩:=aEP.1 k;exact⟨h1,m,⟨s,h,h2⟩,h3⟩
 ·rintro⟨h1,m,⟨s,h,h2⟩,h3⟩;exact⟨s,h,aEP.2 ⟨h1,m,h2,h3⟩⟩
theorem OL(w:List Int):w=[]\/∃u l,w=u++[l]:=by
 rcases List.eq_nil_or_concat w with h|⟨u,l,h⟩
 ·exact .inl h
 ·exact .inr ⟨u,l,by simpa using h⟩
theorem aL6{i:Nat}{ds:List Int}{l:Int}{rs:List Int}{s:List Bool}{st:List PStep}{W:Nat->List Int}(hm:Mid nx gl ls start size i ds s st W)(hi:i<st.length)(hls:ls=ds++l::rs)(ha:Asc ls)(hnx:∀p c:Int,0<=p->p<size->c∈ls->∀m∈nx p c,0<=m/\m<size)(hst:∀n∈start,0<=n/\n<size):
  ∀(q:Nat) (w:List Int),w.length=q->slt w (W i++[l])->∀n,tH nx ls start w n->Sn s n/\(0<=n/\n<size):=by
 intro q
 induction q with
 |zero=>
  intro w hw hlt n hc;have:w=[]:=By.1 hw;subst this;have:=KO.1 hc;exact⟨hm.begun n this,hst n this⟩
 |succ q ih=>
  intro w hw hlt n hc
  rcases OL w with rfl|⟨u,c,rfl⟩
  ·simp at hw
  obtain⟨hcl,p,hp,hn⟩:=PK.1 hc;have hul:u.length=q:=by simpa using hw
  have hu:slt u (W i++[l]):=JJ (.inl (by simp)) hlt;obtain⟨hps,hpr⟩:=ih u hul hu p hp;refine⟨?_,hnx p c hpr.1 hpr.2 hcl n hn⟩;obtain⟨k,hk,hpk⟩:=hm.all p hpr.1 hps;have hle:=hm.least k hk p hpk u hp;have h2:=OJ.1 hlt;refine hm.done k hk p hpk c hcl ?_ n hn
  rcases Dc k i with h|h|h
  ·exact .inl h
  ·subst h;refine .inr ⟨rfl,?_⟩
   rcases h2 with h2|⟨_,h2⟩
   ·exact(hle h2).elim
   ·rw[hls]at hcl ha
    rcases Al.1 hcl with h3|h3
    ·exact h3
    ·exfalso
     rcases Au.1 h3 with h4|h4
     ·omega
     ·have h5:=List.pairwise_append.1 ha;have:=(List.pairwise_cons.1 h5.2.1).1 c h4;omega
  ·exfalso;have h3:=hm.asc i k h hk
   rcases h2 with h2|⟨h2,_⟩
   ·exact hle (JJ h2 h3)
   ·subst h2;exact hle h3
theorem lM{α:Type}{l m:List α}{i:Nat}{d:α}(h:i<l.length):(l++m).getD i d=l.getD i d:=by
 rw[Aa,Aa,Ba h]
theorem UD{α:Type}{l:List α}{x d:α}:(l++[x]).getD l.length d=x:=by
 rw[Aa,Bh (Ab _)];simp
theorem aTq{i:Nat}{ds:List Int}{s:List Bool}{st:List PStep}{W:Nat->List Int}(hm:Mid nx gl ls start size i ds s st W):∀(j k:Nat),k<j->k<st.length->gX st j k=W k:=by
 intro j
 induction j with
 |zero=>intro k hk;omega
 |succ j ih=>
  intro k hk hl;unfold gX
  rcases hm.par0 k hl with⟨h1,h2⟩|⟨p,h1,h2,_,h3⟩
  ·rw[if_neg (by omega),h2]
  ·rw[if_pos (by omega),h1,Cw,ih p (by omega) (by omega),h3]
theorem aQu{i:Nat}{ds:List Int}{l:Int}{rs:List Int}{s:List Bool}{st:List PStep}{W:Nat->List Int}(hm:Mid nx gl ls start size i ds s st W)(hi:i<st.length)(hls:ls=ds++l::rs)(ha:Asc ls)(hnx:∀p c:Int,0<=p->p<size->c∈ls->∀m∈nx p c,0<=m/\m<size)(hst:∀n∈start,0<=n/\n<size):
  ((visG gl (flat nx (st.getD i default).ns l) s [] false).2.2=true->WV (Hits nx ls start gl) (W i++[l])/\(visG gl (flat nx (st.getD i default).ns l) s [] false).2.1≠[])/\
  ((visG gl (flat nx (st.getD i default).ns l) s [] false).2.2≠true->∃W',Mid nx gl ls start size i (ds++[l]) (visG gl (flat nx (st.getD i default).ns l) s [] false).1 (addP st i l (visG gl (flat nx (st.getD i default).ns l) s [] false).2.1) W'):=by
 have hll:l∈ls:=by rw[hls];simp
 have hreach:∀n∈flat nx (st.getD i default).ns l,tH nx ls start (W i++[l]) n/\(0<=n/\n<size):=by
  intro n hn;obtain⟨p,hp,hpn⟩:=Di.1 hn;obtain⟨h1,_,h3⟩:=hm.nodes i hi p hp;exact⟨PK.2 ⟨hll,p,h1,hpn⟩,hnx p l h3.1 h3.2 hll n hpn⟩
 have hv:=aBt gl (flat nx (st.getD i default).ns l) s [] false fun n hn=>by rw[hm.len];exact(hreach n hn).2
 have hbef:=fun w=>aL6 hm hi hls ha hnx hst w.length w rfl;generalize hns:flat nx (st.getD i default).ns l=ns at *;generalize hr:visG gl ns s [] false=r at *;obtain⟨s2,f,b⟩:=r;have v1:=hv.seen;have v2:∀m,m∈f↔m∈ns/\¬Sn s m:=fun m=>by have:=hv.new m;simpa using this
 have v3:b=true↔∃m,m∈ns/\¬Sn s m/\gl m=true:=by have:=hv.hit;simpa using this
 have v4:f.length+s2.count false=s.count false:=by have:=hv.cnt;simpa using this
 have v5:s2.length=s.length:=hv.len;simp only at v1|-
 constructor
 ·intro hb;obtain⟨m,h1,h2,h3⟩:=v3.1 hb;refine⟨⟨⟨m,(hreach m h1).1,h3⟩,?_⟩,?_⟩
  ·rintro x ⟨u,hu,hg⟩ hlt;obtain⟨k1,k2⟩:=hbef x hlt u hu;rw[hm.none u k2.1 k1]at hg;cases hg
  ·intro hf;have:=(v2 m).2 ⟨h1,h2⟩;rw[hf]at this;cases this
 ·intro hb
  have hnone:∀n,0<=n->Sn s2 n->gl n=false:=by
   intro n hn hs
   rcases(v1 n hn).1 hs with h|h
   ·exact hm.none n hn h
   ·by_cases hs0:Sn s n
    ·exact hm.none n hn hs0
    ·cases hg:gl n with
     |false=>rfl
     |true=>exact(hb (v3.2 ⟨n,h,hs0,hg⟩)).elim
  have hsn:∀n,0<=n->Sn s n->Sn s2 n:=fun n hn h=>(v1 n hn).2 (.inl h)
  have hdone:∀p∈(st.getD i default).ns,∀m∈nx p l,Sn s2 m:=by
   intro p hp m hmm;have:m∈ns:=by rw[<-hns];exact Di.2 ⟨p,hp,hmm⟩
   exact(v1 m (hreach m this).2.1).2 (.inr this)
  unfold addP
  by_cases hf:f=[]
  ·rw[if_pos hf];subst hf;refine⟨W,⟨by rw[v5,hm.len],by have:=hm.room;simp at v4;omega,hm.wide,?_,?_,?_,hm.asc,hm.least,hnone,?_,?_⟩⟩
   ·intro k hk
    rcases hm.par0 k hk with h|⟨p,h1,h2,h3,h4⟩
    ·exact .inl h
    ·refine .inr ⟨p,h1,h2,?_,h4⟩
     rcases h3 with h3|⟨h3,h5⟩
     ·exact .inl h3
     ·exact .inr ⟨h3,List.mem_append_left _ h5⟩
   ·intro k hk n hn;obtain⟨h1,h2,h3⟩:=hm.nodes k hk n hn;exact⟨h1,hsn n h3.1 h2,h3⟩
   ·intro n hn hs
    rcases(v1 n hn).1 hs with h|h
    ·exact hm.all n hn h
    ·by_cases hs0:Sn s n
     ·exact hm.all n hn hs0
     ·have:=(v2 n).2 ⟨h,hs0⟩;cases this
   ·intro n hn;exact hsn n (hst n hn).1 (hm.begun n hn)
   ·intro k hk p hp c hc hor m hmm;have hpr:=(hm.nodes k hk p hp).2.2;have hmr:=hnx p c hpr.1 hpr.2 hc m hmm
    rcases hor with h|⟨h,h2⟩
    ·exact hsn m hmr.1 (hm.done k hk p hp c hc (.inl h) m hmm)
    ·rcases Al.1 h2 with h3|h3
     ·exact hsn m hmr.1 (hm.done k hk p hp c hc (.inr ⟨h,h3⟩) m hmm)
     ·simp at h3;subst h3;subst h;exact hdone p hp m hmm
  ·rw[if_neg hf];have hfl:0<f.length:=Dv.2 hf;refine⟨fun k=>if k=st.length then W i++[l]else W k,?_⟩;have hold:∀k,k<st.length->(st++[(⟨i,l,f⟩:PStep)]).getD k default=st.getD k default:=fun k hk=>lM hk;have hnew:(st++[(⟨i,l,f⟩:PStep)]).getD st.length default=⟨i,l,f⟩:=UD;have hlen:(st++[(⟨i,l,f⟩:PStep)]).length=st.length+1:=by simp
   have hmax:∀k,k<st.length->slt (W k) (W i++[l]):=by
    intro k hk
    rcases hm.par0 k hk with⟨_,h⟩|⟨p,h1,h2,h3,h4⟩
    ·rw[h];exact .inl (by simp)
    ·rw[h4,OJ]
     rcases h3 with h3|⟨h3,h5⟩
     ·exact .inl (hm.asc p i h3 hi)
     ·subst h3;refine .inr ⟨rfl,?_⟩;rw[hls]at ha;have h6:=List.pairwise_append.1 ha;exact h6.2.2 _ h5 l Bi
   refine⟨by rw[v5,hm.len],by have:=hm.room;rw[hlen];omega,?_,?_,?_,?_,?_,?_,hnone,?_,?_⟩
   ·intro k hk;rw[hlen]at hk
    by_cases h:k<st.length
    ·rw[hold k h];exact hm.wide k h
    ·obtain rfl:k=st.length:=by omega
     rw[hnew];have:=List.count_le_length (a:=false) (l:=s);have:=hm.len;show f.length<=size;omega
   ·intro k hk;rw[hlen]at hk
    by_cases h:k<st.length
    ·rw[hold k h];simp only[show k≠st.length by omega,if_false]
     rcases hm.par0 k h with h0|⟨p,h1,h2,h3,h4⟩
     ·exact .inl h0
     ·refine .inr ⟨p,h1,h2,?_,?_⟩
      ·rcases h3 with h3|⟨h3,h5⟩
       ·exact .inl h3
       ·exact .inr ⟨h3,List.mem_append_left _ h5⟩
      ·rw[if_neg (by omega)];exact h4
    ·obtain rfl:k=st.length:=by omega
     rw[hnew];refine .inr ⟨i,rfl,hi,.inr ⟨rfl,by simp⟩,?_⟩;simp only[if_true];rw[if_neg (by omega)]
   ·intro k hk n hn;rw[hlen]at hk
    by_cases h:k<st.length
    ·rw[hold k h]at hn;obtain⟨h1,h2,h3⟩:=hm.nodes k h n hn;simp only[show k≠st.length by omega,if_false];exact⟨h1,hsn n h3.1 h2,h3⟩
    ·obtain rfl:k=st.length:=by omega
     rw[hnew]at hn;have h1:=((v2 n).1 hn).1;have h2:=hreach n h1;simp only[if_true];exact⟨h2.1,(v1 n h2.2.1).2 (.inr h1),h2.2⟩
   ·intro n hn hs
    by_cases hs0:Sn s n
    ·obtain⟨k,hk,h1⟩:=hm.all n hn hs0;exact⟨k,by omega,by rw[hold k hk];exact h1⟩
    ·rcases(v1 n hn).1 hs with h|h
     ·exact(hs0 h).elim
     ·exact⟨st.length,by omega,by rw[hnew];exact(v2 n).2 ⟨h,hs0⟩⟩
   ·intro j k hjk hk;rw[hlen]at hk
    by_cases h:k<st.length
    ·simp only[show k≠st.length by omega,show j≠st.length by omega,if_false];exact hm.asc j k hjk h
    ·obtain rfl:k=st.length:=by omega
     simp only[show j≠st.length by omega,if_false,if_true];exact hmax j hjk
   ·intro k hk n hn w hw;rw[hlen]at hk
    by_cases h:k<st.length
    ·rw[hold k h]at hn;simp only[show k≠st.length by omega,if_false];exact hm.least k h n hn w hw
    ·obtain rfl:k=st.length:=by omega
     rw[hnew]at hn;simp only[if_true];intro hlt;exact((v2 n).1 hn).2 (hbef w hlt n hw).1
   ·intro n hn;exact hsn n (hst n hn).1 (hm.begun n hn)
   ·intro k hk p hp c hc hor m hmm;rw[hlen]at hk
    by_cases h:k<st.length
    ·rw[hold k h]at hp;have hpr:=(hm.nodes k h p hp).2.2;have hmr:=hnx p c hpr.1 hpr.2 hc m hmm
     rcases hor with h1|⟨h1,h2⟩
     ·exact hsn m hmr.1 (hm.done k h p hp c hc (.inl h1) m hmm)
     ·rcases Al.1 h2 with h3|h3
      ·exact hsn m hmr.1 (hm.done k h p hp c hc (.inr ⟨h1,h3⟩) m hmm)
      ·simp at h3;subst h3;subst h1;exact hdone p hp m hmm
    ·exfalso;omega
theorem aJn{i:Nat}(ha:Asc ls)(hnx:∀p c:Int,0<=p->p<size->c∈ls->∀m∈nx p c,0<=m/\m<size)(hst:∀n∈start,0<=n/\n<size){ns:List Int}:∀(rs ds:List Int) (s:List Bool) (st:List PStep) (W:Nat->List Int),Mid nx gl ls start size i ds s st W->i<st.length->ls=ds++rs->ns=(st.getD i default).ns->
  ((ltG nx gl ns i rs (s,st)).1=true->WV (Hits nx ls start gl) (gX (ltG nx gl ns i rs (s,st)).2.2 (ltG nx gl ns i rs (s,st)).2.2.length ((ltG nx gl ns i rs (s,st)).2.2.length-1)))/\
  ((ltG nx gl ns i rs (s,st)).1≠true->st.length<=(ltG nx gl ns i rs (s,st)).2.2.length/\∃W',Mid nx gl ls start size (i+1) [] (ltG nx gl ns i rs (s,st)).2.1 (ltG nx gl ns i rs (s,st)).2.2 W'):=by
 intro rs
 induction rs with
 |nil=>
  intro ds s st W hm hi hls hns;simp only[Ah]at hls;subst hls;refine⟨fun h=>by simp[ltG]at h,fun _=>⟨Ab _,W,hm.len,hm.room,hm.wide,?_,hm.nodes,hm.all,hm.asc,hm.least,hm.none,hm.begun,?_⟩⟩
  ·intro k hk
   rcases hm.par0 k hk with h0|⟨p,h1,h2,h3,h4⟩
   ·exact .inl h0
   ·exact .inr ⟨p,h1,h2,.inl (by omega),h4⟩
  ·intro k hk p hp l hl hor m hmm
   rcases hor with h|⟨_,h⟩
   ·exact hm.done k hk p hp l hl (by by_cases hki:k=i;exact .inr ⟨hki,hl⟩;exact .inl (by omega)) m hmm
   ·cases h
 |cons l rs ih=>
  intro ds s st W hm hi hls hns;obtain⟨h1,h2⟩:=aQu hm hi hls ha hnx hst;rw[<-hns]at h1 h2;simp only[ltG]
  by_cases hb:(visG gl (flat nx ns l) s [] false).2.2=true
  ·simp only[hb,if_true];refine⟨fun _=> ?_,fun h=>(h rfl).elim⟩;obtain⟨k1,k2⟩:=h1 hb;unfold addP;rw[if_neg k2];simp only[Af,Ad,Ac,Ag,Nat.add_sub_cancel]
   have hw:gX (st++[⟨i,l,(visG gl (flat nx ns l) s [] false).2.1⟩]) (st.length+1) st.length=W i++[l]:=by
    unfold gX;rw[UD];simp only[Cw];rw[if_pos (by omega)]
    congr 1
    have hpre:∀(j k:Nat),k<j->k<st.length->∀x,gX (st++[x]) j k=gX st j k:=by
     intro j
     induction j with
     |zero=>intro k hk;omega
     |succ j ihj=>
      intro k hk hl x;unfold gX;rw[lM hl]
      rcases hm.par0 k hl with⟨h1,h2⟩|⟨p,h1,h2,_,h3⟩
      ·rw[if_neg (by omega),if_neg (by omega)]
      ·rw[if_pos (by omega),if_pos (by omega),h1,Cw,ihj p (by omega) (by omega)]
    rw[hpre _ _ hi hi,aTq hm _ _ hi hi]
   rw[hw];exact k1
  ·simp only[hb];obtain⟨W',hm'⟩:=h2 hb
   have hle:st.length<=(addP st i l (visG gl (flat nx ns l) s [] false).2.1).length:=by
    unfold addP;split<;>simp
   have hget:ns=((addP st i l (visG gl (flat nx ns l) s [] false).2.1).getD i default).ns:=by
    rw[hns];unfold addP
    split
    ·rfl
    ·rw[lM hi]
   obtain⟨g1,g2⟩:=ih (ds++[l]) _ _ W' hm' (by omega) (by rw[hls];simp) hget;exact⟨g1,fun h=>⟨Bv hle (g2 h).1,(g2 h).2⟩⟩
theorem aNI(ha:Asc ls)(hnx:∀p c:Int,0<=p->p<size->c∈ls->∀m∈nx p c,0<=m/\m<size)(hst:∀n∈start,0<=n/\n<size):∀(j i:Nat) (s:List Bool) (st:List PStep) (W:Nat->List Int),Mid nx gl ls start size i [] s st W->i<=st.length->size+1<=i+j->
  ((outG nx gl ls j i (s,st)).1=true->WV (Hits nx ls start gl) (gX (outG nx gl ls j i (s,st)).2.2 (outG nx gl ls j i (s,st)).2.2.length ((outG nx gl ls j i (s,st)).2.2.length-1)))/\
  ((outG nx gl ls j i (s,st)).1≠true->∀w,¬Hits nx ls start gl w):=by
 have fin:∀(i:Nat) (s:List Bool) (st:List PStep) (W:Nat->List Int),Mid nx gl ls start size i [] s st W->¬i<st.length->∀w,¬Hits nx ls start gl w:=by
  intro i s st W hm hi w
  have key:∀(q:Nat) (w:List Int),w.length=q->∀n,tH nx ls start w n->Sn s n/\(0<=n/\n<size):=by
   intro q
   induction q with
   |zero=>
    intro w hw n hc;have:w=[]:=By.1 hw;subst this;have:=KO.1 hc;exact⟨hm.begun n this,hst n this⟩
   |succ q ih=>
    intro w hw n hc
    rcases OL w with rfl|⟨u,c,rfl⟩
    ·simp at hw
    obtain⟨hcl,p,hp,hn⟩:=PK.1 hc;obtain⟨h1,h2⟩:=ih u (by simpa using hw) p hp;obtain⟨k,hk,hpk⟩:=hm.all p h2.1 h1;exact⟨hm.done k hk p hpk c hcl (.inl (by omega)) n hn,hnx p c h2.1 h2.2 hcl n hn⟩
  rintro⟨u,hu,hg⟩;obtain⟨h1,h2⟩:=key w.length w rfl u hu;rw[hm.none u h2.1 h1]at hg;cases hg
 intro j
 induction j with
 |zero=>
  intro i s st W hm hi hj;have:=hm.room;exfalso;omega
 |succ j ih=>
  intro i s st W hm hi hj;simp only[outG]
  by_cases hlt:i<st.length
  ·simp only[hlt,if_true];obtain⟨h1,h2⟩:=aJn (ns:=(st.getD i default).ns) ha hnx hst ls [] s st W hm hlt rfl rfl
   by_cases hb:(ltG nx gl (st.getD i default).ns i ls (s,st)).1=true
   ·simp only[hb,if_true];exact⟨fun _=>h1 hb,fun h=>(h rfl).elim⟩
   ·simp only[hb];obtain⟨h3,W',hm'⟩:=h2 hb;exact ih (i+1) _ _ W' hm' (Bv hlt h3) (by omega)
  ·rw[if_neg hlt];exact⟨fun h=>Bool.noConfusion h,fun _=>fin i s st W hm hlt⟩
theorem aDC(ha:Asc ls)(hnx:∀p c:Int,0<=p->p<size->c∈ls->∀m∈nx p c,0<=m/\m<size)(hst:∀n∈start,0<=n/\n<size)(hne:start≠[]):FJ (Hits nx ls start gl) (FR nx gl ls start size):=by
 have hz:∀n,¬Sn (List.replicate size false) n:=by
  intro n;unfold Sn;rw[Aa,List.getElem?_replicate]
  split<;>simp
 have hv:=aBt gl start (List.replicate size false) [] false fun n hn=>by simpa using hst n hn
 unfold FR;generalize visG gl start (List.replicate size false) [] false=r at *;obtain⟨s2,f,b⟩:=r;have v1:∀m,0<=m->(Sn s2 m↔m∈start):=fun m hm=>by have:=hv.seen m hm;simp only[hz,false_or]at this;exact this
 have v2:∀m,m∈f↔m∈start:=fun m=>by have:=hv.new m;simpa [hz]using this
 have v3:b=true↔∃m,m∈start/\gl m=true:=by have:=hv.hit;simpa [hz]using this
 have v4:f.length+s2.count false=size:=by have:=hv.cnt;simpa using this
 have v5:s2.length=size:=by have:=hv.len;simpa using this
 simp only
 by_cases hb:b=true
 ·rw[if_pos hb];obtain⟨m,h1,h2⟩:=v3.1 hb;refine .inl ⟨rfl,⟨m,KO.2 h1,h2⟩,fun x _ hx=> ?_⟩
  rcases hx with hx|⟨hx,hy⟩
  ·simp at hx
  ·have:x=[]:=By.1 (by simpa using hx);subst this;exact hy
 ·rw[if_neg hb]
  have hf:f≠[]:=by
   intro h;apply hne
   cases start with
   |nil=>rfl
   |cons a az=>
    have:=(v2 a).2 Bi;rw[h]at this;cases this
  have hfl:0<f.length:=Dv.2 hf;have hst1:addP [] (-1) 0 f=[⟨-1,0,f⟩]:=by unfold addP;rw[if_neg hf];rfl
  rw[hst1]
  have hm:Mid nx gl ls start size 0 [] s2 [⟨-1,0,f⟩] (fun _=>[]):=by
   refine⟨v5,by simp;omega,?_,?_,?_,?_,?_,?_,?_,?_,?_⟩
   ·intro k hk;obtain rfl:k=0:=by simpa using hk
    show f.length<=size;omega
   ·intro k hk;obtain rfl:k=0:=by simpa using hk
    exact .inl ⟨by show(-1:Int)<0;decide,rfl⟩
   ·intro k hk n hn;obtain rfl:k=0:=by simpa using hk
    have h1:=(v2 n).1 hn;have h2:=hst n h1;exact⟨KO.2 h1,(v1 n h2.1).2 h1,h2⟩
   ·intro n hn hs;exact⟨0,by simp,(v2 n).2 ((v1 n hn).1 hs)⟩
   ·intro j k hjk hk;simp at hk;omega
   ·intro k hk n hn w hw hlt
    rcases hlt with h|⟨h,h2⟩
    ·simp at h
    ·have:w=[]:=By.1 (by simpa using h);subst this;exact h2
   ·intro n hn hs
    cases hg:gl n with
    |false=>rfl
    |true=>exact(hb (v3.2 ⟨n,(v1 n hn).1 hs,hg⟩)).elim
   ·intro n hn;exact(v1 n (hst n hn).1).2 hn
   ·intro k hk p hp l hl hor m hmm;obtain rfl:k=0:=by simpa using hk
    rcases hor with h|⟨_,h⟩
    ·omega
    ·cases h
  obtain⟨g1,g2⟩:=aNI ha hnx hst (size+1) 0 s2 [⟨-1,0,f⟩] _ hm (by simp) (by omega)
  by_cases ho:(outG nx gl ls (size+1) 0 (s2,[⟨-1,0,f⟩])).1=true
  ·rw[if_pos ho];exact .inl ⟨rfl,g1 ho⟩
  ·rw[if_neg ho];exact .inr ⟨rfl,g2 ho⟩
end
end
theorem RX{l:Int}(h0:0<=l)(h:l<=5):ltr (b7 l)=l:=by
 unfold ltr b7;rw[UInt8.toNat_ofNat'];omega
theorem aMR{b:UInt8}:b7 (ltr b)=b:=by
 have:=toNat_lt b;unfold ltr b7;have:(97+((b.toNat:Int)-97)).toNat=b.toNat:=by omega
 rw[this];simp
def swp(l:List UInt8)(i j:Nat):List UInt8:=(l.set i (l.getD j 0)).set j (l.getD i 0)
theorem AE(l:List UInt8)(i j:Nat):(swp l i j).length=l.length:=by simp[swp]
theorem aUg{l:List UInt8}{i j:Nat}(hi:i<l.length)(hj:j<l.length){b:UInt8}(h:b∈swp l i j):b∈l:=by
 unfold swp at h;have key:∀ {l':List UInt8} {k:Nat} {v b:UInt8},b∈l'.set k v->b∈l'\/b=v:=fun h=>Dm h
 have at':∀ {k:Nat},k<l.length->l.getD k 0∈l:=fun hk=>by
  rw[Aa,Ae hk];exact Az hk
 rcases key h with h|h
 ·rcases key h with h|h
  ·exact h
  ·rw[h];exact at' hj
 ·rw[h];exact at' hi
def revG:Nat->Int->Int->List UInt8->Int×Int×List UInt8
 |0,i,j,l=>(i,j,l)
 |q+1,i,j,l=>if i<j then revG q (i+1) (j-1) (swp l i.toNat j.toNat)else(i,j,l)
theorem aBV:∀(q:Nat) (i j:Int) (l:List UInt8),0<=i->j<l.length->(revG q i j l).2.2.length=l.length/\∀b∈(revG q i j l).2.2,b∈l
 |0,i,j,l,_,_=>⟨rfl,fun b h=>h⟩
 |q+1,i,j,l,h0,h1=>by
  unfold revG
  split
  ·rename_i hlt
   have ih:=aBV q (i+1) (j-1) (swp l i.toNat j.toNat) (by omega) (by rw[AE];omega);rw[AE]at ih;exact⟨ih.1,fun b hb=>aUg (by omega) (by omega) (ih.2 b hb)⟩
  ·exact⟨rfl,fun b h=>h⟩
theorem aTM{call:aZ}{thaw:List Nat}{dst:Option Tmp}{x y:Operand}{g k:Nat}{l:List UInt8}{b:UInt8}(hk:k<l.length):memD env call thaw dst (.store 5 x y) [.arr (bI l) 1 g] [.ptr 0 g k,.d (.int .u8 (b.toNat:Int))]=some (.d .undef,[.arr (bI (l.set k b)) 1 g],{ ids:=[0],ro:=false,wr:=[0]}):=by
 have hst:=aRn (h:=[]) (g:=g) (e:=1) (b:=b) hk;have e1:aD aG [O.arr (bI l) 1 g] (idsL [.ptr 0 g k,.d (.int .u8 (b.toNat:Int))]) []=[0]:=rfl;have e2:pack [O.arr (bI l) 1 g] [0]=[O.arr (bI l) 1 g]:=rfl;have e3:aE (aH [0]) [.ptr 0 g k,.d (.int .u8 (b.toNat:Int))]=[.ptr 0 g k,.d (.int .u8 (b.toNat:Int))]:=rfl;unfold memD;rw[e1];simp only[box];rw[e2,e3];simp only[evOp,eD,two,hst,Ax];rfl
theorem aQr{R:Type}{L n g:Nat}{k:KE R}:∀(q:Nat) (i j:Int) (m:Nat) (l:List UInt8) (len:Nat) (h0:0<=i) (hj:j<l.length) (hq:j-i<q) (hm:q<m) (hl:len=l.length) (hs:l.length<=2147483648) (hj0:-1<=j),
  aM env (aA env L n) L 1 [] Bz39 (dN 0) Bz58 m (.sl 0 g 0 len::Y1 (nI i::nI j::Y16 (Y8 ([])))) [.arr (bI l) 1 g] k
  =k (.exit 0) (.sl 0 g 0 len::Y1 (nI ((revG q i j l).1)::nI ((revG q i j l).2.1)::Y16 (Y8 ([])))) [.arr (bI (revG q i j l).2.2) 1 g]:=by
 intro q
 induction q with
 |zero=>
  intro i j m l len h0 hj hq hm hl hs hj0;obtain _|m:=m;omega;have hc:¬i<j:=by omega
  simp -implicitDefEqProofs (maxSteps:=2000000) (disch:=try exact Dz) only[↓DN,↓kRet,UP,simprocAttr,hc,gY,fM,Tryz.f149];rfl
 |succ q ih=>
  intro i j m l len h0 hj hq hm hl hs hj0;obtain _|m:=m;omega
  by_cases hc:i<j
  ·have hi1:i<(len:Int):=by omega
   have hj1:j<(len:Int):=by omega
   have hi2:i.toNat<l.length:=by omega
   have hj2:j.toNat<l.length:=by omega
   have hj3:j.toNat<(l.set i.toNat (l.getD j.toNat 0)).length:=by rw[Bl];exact hj2
   have hj4:(0:Int)<=j:=by omega
   have ih':=ih (i+1) (j-1) m (swp l i.toNat j.toNat) len (by omega) (by rw[AE];omega) (by omega) (by omega) (by rw[AE];exact hl) (by rw[AE];exact hs) (by omega);unfold swp at ih';simp -implicitDefEqProofs (maxSteps:=2000000) (disch:=try exact Dz) only[↓DN,↓kRet,UP,simprocAttr,hc,↓aTM,↓ih',gY,fM,Tryz.f149];simp only[revG,hc,if_true,swp]
  ·simp -implicitDefEqProofs (maxSteps:=2000000) (disch:=try exact Dz) only[↓DN,↓kRet,UP,simprocAttr,hc,gY,fM,Tryz.f149];simp only[revG,hc,if_false]
theorem aUF{L n g:Nat}(hn:1<=n)(l:List UInt8)(hs:l.length<=2147483648)(hL:2^60<=L):aA env L n 149 [.sl 0 g 0 l.length] [.arr (bI l) 1 g]=some (.tup [],[.arr (bI (revG (l.length+1) 0 ((l.length:Int)-1) l).2.2) 1 g]):=by
 have lp:∀ {R:Type} {n:Nat} {k:KE R},aM env (aA env L n) L 1 [] Bz39 (dN 0) Bz58 L (.sl 0 g 0 l.length::Y1 (nI 0::nI ((l.length:Int)-1)::Y16 (Y8 ([])))) [.arr (bI l) 1 g] k
  =k (.exit 0) (.sl 0 g 0 l.length::Y1 (nI ((revG (l.length+1) 0 ((l.length:Int)-1) l).1)::nI ((revG (l.length+1) 0 ((l.length:Int)-1) l).2.1)::Y16 (Y8 ([])))) [.arr (bI (revG (l.length+1) 0 ((l.length:Int)-1) l).2.2) 1 g]:=
  fun {R n k}=>aQr (l.length+1) 0 _ L l l.length (Int.le_refl _) (by omega) (by omega) (by omega) rfl hs (by omega)
 have loop_a:=@lp;obtain _|n:=n;omega;simp -implicitDefEqProofs (maxSteps:=2000000) (disch:=try exact Dz) only[↓DN,↓kAsg,↓kRet,UP,simprocAttr,↓loop_a,CT,pM,Tryz.f149]
theorem aUY{R:Type}{L n id g:Nat}{hq:H}{k:KA R}(hn:1<=n)(l:List UInt8)(hi:hq[id]? =some (.arr (bI l) 1 g))(hs:l.length<=2147483648)(hL:2^60<=L):a6 env (aA env L n) hq 149 [.sl id g 0 l.length] k=k (.tup []) (hq.set id (.arr (bI (revG (l.length+1) 0 ((l.length:Int)-1) l).2.2) 1 g)):=
 UL hi (by simp[idsL,idsA]) jF rfl (by simpa [aE,mapA,aH]using aUF hn l hs hL)
section
variable{R:Type}{L n:Nat}
def visF:List Int->List Bool->List Int->List Bool×List Int
 | [],s,f=>(s,f)
 |n::ns,s,f=>if s.getD n.toNat false=true then visF ns s f else visF ns (s.set n.toNat true) (f++[n])
def iC(s:List Bool):Nat:=s.count false
theorem aAq:∀(ns:List Int) (s:List Bool) (f:List Int),(visF ns s f).1.length=s.length
 | [],s,f=>rfl
 |n::ns,s,f=>by
  unfold visF
  split
  ·exact aAq ns s f
  ·rw[aAq ns];simp
theorem Y3:∀ {s:List Bool} {k:Nat},s.getD k false=false->k<s.length->iC (s.set k true)+1=iC s
 | [],k,h,hk=>by simp at hk
 |b::s,0,h,hk=>by
  simp at h;subst h;simp[iC]
 |b::s,k+1,h,hk=>by
  have ih:=Y3 (s:=s) (k:=k) (by simpa using h) (by simpa using hk);simp only[iC]at ih|-;simp only[Bn,List.count_cons];omega
theorem HE:∀(ns:List Int) (s:List Bool) (f:List Int),(∀n∈ns,0<=n/\n<s.length)->(visF ns s f).2.length+iC (visF ns s f).1=f.length+iC s
 | [],s,f,h=>rfl
 |n::ns,s,f,h=>by
  unfold visF
  split
  ·exact HE ns s f fun m hm=>h m (Be _ hm)
  ·rename_i h1
   have h2:=h n Bi;rw[HE ns _ _ fun m hm=>by simpa using h m (Be _ hm)];have:=Y3 (s:=s) (k:=n.toNat) (by simpa using h1) (by omega);simp only[Af,Ad,Ac];omega
theorem aAs:∀(ns:List Int) (s:List Bool) (f:List Int) (x:Int),x∈(visF ns s f).2->x∈f\/x∈ns
 | [],s,f,x,h=>.inl h
 |n::ns,s,f,x,h=>by
  unfold visF at h
  split at h
  ·rcases aAs ns s f x h with h|h
   ·exact .inl h
   ·exact .inr (Be _ h)
  ·rcases aAs ns _ _ x h with h|h
   ·rcases Al.1 h with h|h
    ·exact .inl h
    ·simp at h;subst h;exact .inr Bi
   ·exact .inr (Be _ h)
theorem TS(s:List Bool):iC s<=s.length:=List.count_le_length
structure PGood(I:Int->Prop)(size:Nat)(s:List Bool)(st:List PStep):Prop where
 len:s.length=size
 node:∀p∈st,∀n∈p.ns,I n
 room:st.length+iC s<=size
 wide:∀p∈st,p.ns.length<=size
theorem aLY{I:Int->Prop}{size:Nat}{s:List Bool}{st:List PStep}(h:PGood I size s st){ns:List Int}(hI:∀n∈ns,I n)(hr:∀n,I n->0<=n/\n<size)(p l:Int):
  PGood I size (visF ns s []).1 (addP st p l (visF ns s []).2)/\(addP st p l (visF ns s []).2).length+iC (visF ns s []).1<=st.length+iC s/\st.length<=(addP st p l (visF ns s []).2).length:=by
 have hc:=HE ns s [] fun n hn=>by
  have:=hr n (hI n hn);rw[h.len];exact this
 have hm:=aAs ns s [];have hl:=aAq ns s [];have hu:=TS s;rw[h.len]at hu;have hroom:=h.room;simp only[Ac,Ag]at hc;unfold addP
 split
 ·rename_i hf
  rw[hf]at hc;simp only[Ac,Ag]at hc;exact⟨⟨by rw[hl,h.len],h.node,by omega,h.wide⟩,by omega,by omega⟩
 ·rename_i hf
  have hpos:0<(visF ns s []).2.length:=Dv.2 hf;refine⟨⟨by rw[hl,h.len],?_,by simp only[Af,Ad,Ac];omega,?_⟩,by simp only[Af,Ad,Ac];omega,by simp⟩
  ·intro q hq n hn
   rcases Al.1 hq with hq|hq
   ·exact h.node q hq n hn
   ·simp at hq;subst hq
    rcases hm n hn with h1|h1
    ·cases h1
    ·exact hI n h1
  ·intro q hq
   rcases Al.1 hq with hq|hq
   ·exact h.wide q hq
   ·simp at hq;subst hq;show(visF ns s []).2.length<=size;omega
theorem zI(gl:Int->Bool):∀(ns:List Int) (s:List Bool) (f:List Int) (b:Bool),(visG gl ns s f b).1=(visF ns s f).1/\(visG gl ns s f b).2.1=(visF ns s f).2
 | [],s,f,b=>⟨rfl,rfl⟩
 |n::ns,s,f,b=>by
  unfold visG visF
  split
  ·exact zI gl ns s f b
  ·exact zI gl ns _ _ _
theorem LR{I:Int->Prop}{gl:Int->Bool}{size:Nat}{s:List Bool}{st:List PStep}(h:PGood I size s st){ns:List Int}(hI:∀n∈ns,I n)(hr:∀n,I n->0<=n/\n<size)(p l:Int):
  PGood I size (visG gl ns s [] false).1 (addP st p l (visG gl ns s [] false).2.1)/\(addP st p l (visG gl ns s [] false).2.1).length+iC (visG gl ns s [] false).1<=st.length+iC s/\st.length<=(addP st p l (visG gl ns s [] false).2.1).length:=by
 obtain⟨e1,e2⟩:=zI gl ns s [] false;rw[e1,e2];exact aLY h hI hr p l
theorem P3{I:Int->Prop}{gl:Int->Bool}{size:Nat}{nx:Int->Int->List Int}{ns:List Int}{p:Int}(hr:∀n,I n->0<=n/\n<size)(hn:∀n∈ns,I n):∀(ls:List Int) (q:List Bool×List PStep),(∀n m,I n->m∈ls->∀y∈nx n m,I y)->PGood I size q.1 q.2->
  PGood I size (ltG nx gl ns p ls q).2.1 (ltG nx gl ns p ls q).2.2/\(ltG nx gl ns p ls q).2.2.length+iC (ltG nx gl ns p ls q).2.1<=q.2.length+iC q.1/\q.2.length<=(ltG nx gl ns p ls q).2.2.length
 | [],q,hx,h=>⟨h,Ab _,Ab _⟩
 |l::ls,q,hx,h=>by
  have hI:∀m∈flat nx ns l,I m:=by
   intro m hm;obtain⟨n,h1,h2⟩:=Di.1 hm;exact hx n l (hn n h1) Bi m h2
  obtain⟨g1,g2,g3⟩:=LR (gl:=gl) h hI hr p l;unfold ltG
  split
  ·exact⟨g1,g2,g3⟩
  ·obtain⟨k1,k2,k3⟩:=P3 (gl:=gl) (p:=p) hr hn ls (_,_) (fun n m h1 h2=>hx n m h1 (Be _ h2)) g1;exact⟨k1,Bv k2 g2,Bv g3 k3⟩
def cG:List PStep->List D
 | []=>[]
 |p::l=>.int .i64 p.par::.int .i64 p.lt::.ivs p.ns.length (ints p.ns)::cG l
theorem vF:∀ {l:List PStep},(cG l).length=l.length*3
 | []=>rfl
 |p::l=>by simp only[cG,Ad,vF (l:=l)];omega
theorem aBx:∀ {a b:List PStep},cG a++cG b=cG (a++b)
 | [],b=>rfl
 |p::a,b=>by simp only[cG,Av,aBx (a:=a)]
theorem aLt{l:List PStep}{p t:Int}{ns:List Int}{z:Nat}(h:z=ns.length):cG l++[.int .i64 p,.int .i64 t,.ivs z (ints ns)]=cG (l++[⟨p,t,ns⟩]):=by
 subst h;rw[<-aBx];rfl
theorem BT:∀ {l:List PStep} {k:Nat},(cG l).drop (k*3)=cG (l.drop k)
 |l,0=>by simp
 | [],k+1=>by simp[cG]
 |p::l,k+1=>by
  rw[Bx,Nat.one_mul];simp only[cG,Dh];exact BT
theorem O9{l:List PStep}{k:Nat}(h:l.length<=k):(cG l).take (k*3)=cG l:=Bz (by rw[vF];omega)
theorem ZD{l:List PStep}{k:Nat}(h:k<l.length):(((cG l).drop (k*3+2)).map A.d).head? =some (.d (.ivs (l.getD k default).ns.length (ints (l.getD k default).ns))):=by
 rw[<-Cj,BT,cI h (d:=default)];rfl
def dG(l:List Bool):List D:=l.map .bool
theorem rC{l:List Bool}:(dG l).length=l.length:=by simp[dG]
theorem aA5{l:List Bool}{k:Nat}(h:k<l.length):(((dG l).drop k).map A.d).head? =some (.d (.bool (l.getD k false))):=by
 rw[List.head?_map,Da,dG,Bd,Aa,Ae h];rfl
theorem aCh{l:List Bool}{k:Nat}(h:l.length<=k):(dG l).take k=dG l:=Bz (by rw[rC];exact h)
theorem aF5{l:List Bool}{k:Nat}{v:Bool}(h:k<l.length):bH (dG l) k [.bool v]=dG (l.set k v):=xW _ l k v h
theorem SM{a b c:O}{h:H}{g e k:Nat}{l:List Bool}{v:Bool}(hk:k<l.length):j5 env.P (a::b::c::.arr (dG l) e g::h) 4 (.ptr 3 g k) (.d (.bool v))=some (a::b::c::.arr (dG (l.set k v)) e g::h):=by
 rw[s6 (id:=3) rfl aIb aO6 rfl (by rw[rC];exact hk),aF5 hk];rfl
theorem SZ{a b c d:O}{h:H}{g e k:Nat}{l:List Bool}{v:Bool}(hk:k<l.length):j5 env.P (a::b::c::d::.arr (dG l) e g::h) 4 (.ptr 4 g k) (.d (.bool v))=some (a::b::c::d::.arr (dG (l.set k v)) e g::h):=by
 rw[s6 (id:=4) rfl aIb aO6 rfl (by rw[rC];exact hk),aF5 hk];rfl
theorem rng4:List.range 4=[0,1,2,3]:=rfl
theorem rng5:List.range 5=[0,1,2,3,4]:=rfl
theorem rng6:List.range 6=[0,1,2,3,4,5]:=rfl
theorem aGM:eF env.P 63=some false:=kr
theorem PE:type_of% (AI rng4 (AI rng5 (AI rng6 (AI @vF (AI @O9 (AI @ZD (AI @rC (AI @aA5 @aCh)))))))):=
 ⟨rng4,rng5,rng6,@vF,@O9,@ZD,@rC,@aA5,@aCh⟩
theorem aNj(hn:3<=n)(hL:2^60<=L){I:Int->Prop}{gl:Int->Bool}{gf:FuncId}{caps:List D}{size:Nat}{p l:Int}{ns:List Int}{sc:List D}{se sg sn:Nat}(kc_g:∀ {R:Type} {n:Nat} {hq:H} {k:KA R} (x:Int),2<=n->I x->a6 env (aA env L n) hq gf (nI x::caps.map A.d) k=k (.d (.bool (gl x))) hq)(hI:∀x∈ns,I x)(hr:∀x,I x->0<=x/\x<size)(hsz:size<=4294967296)(hnl:ns.length<=4294967290){k:KE R}:∀(j i m:Nat) (seen:List Bool) (f:List Int) (b:Bool) (len:Nat) (hi:i+j=ns.length) (hm:j<m) (hs:seen.length=size) (hf:f.length<=i) (hlen:len=f.length),
  aM env (aA env L n) L (5) (W8 (W2 [2])) Bz9 (i8 0) Bz25 m (nI p::nI l::Y1 (.ptr 0 0 0::.ptr 1 0 0::.ptr 2 0 0::Y2 (Y1 (.d (.bool false)::.sl 5 0 0 len::.d (.bool b)::Y2 (.d (.ivs ns.length (ints ns))::nI (ns.length)::nI i::Y32 (Y1 ([]))))))) [.box [.sl 3 0 0 size],.box [.d (.fn gf caps)],.box [.sl 4 sg 0 sn],.arr (dG seen) 1 0,.arr sc se sg,.arr (ints f) 1 0] k
  =k (.exit 0) (nI p::nI l::Y1 (.ptr 0 0 0::.ptr 1 0 0::.ptr 2 0 0::Y2 (Y1 (.d (.bool false)::.sl 5 0 0 (visG gl (ns.drop i) seen f b).2.1.length::.d (.bool (((visG gl (ns.drop i) seen f b).2.2)))::Y2 (.d (.ivs ns.length (ints ns))::nI (ns.length)::nI (ns.length)::Y32 (Y1 ([]))))))) [.box [.sl 3 0 0 size],.box [.d (.fn gf caps)],.box [.sl 4 sg 0 sn],.arr (dG (visG gl (ns.drop i) seen f b).1) 1 0,.arr sc se sg,.arr (ints (visG gl (ns.drop i) seen f b).2.1) 1 0]:=by
 intro j
 induction j with
 |zero=>
  intro i m seen f b len hi hm hs hf hlen;obtain _|m:=m;omega;obtain rfl:i=ns.length:=by omega
  subst hlen;simp -implicitDefEqProofs (maxSteps:=2000000) (disch:=try exact Dz) only[↓DN,↓kRet,UP,simprocAttr,PE,Aj,cN,cR,Tryz.f126];simp only[Ca,visG]
 |succ j ih=>
  intro i m seen f b len hi hm hs hf hlen;obtain _|m:=m;omega;subst hlen;have hc:(i:Int)<ns.length:=by omega
  have hk:i<ns.length:=by omega
  have hmem:ns.getD i 0∈ns:=by rw[Aa,Ae hk];exact Az hk
  have hIx:=hI _ hmem;obtain⟨b1,b2⟩:=hr _ hIx;have b3:(ns.getD i 0).toNat<seen.length:=by omega
  have e4:((i+1:Nat):Int)=(i:Int)+1:=by omega
  rw[cI hk (d:=0)]
  cases hb:seen.getD (ns.getD i 0).toNat false with
  |true=>
   have ih':=ih (i+1) m seen f b f.length (by omega) (by omega) hs (by omega) rfl;rw[e4]at ih';clear ih hmem;simp -implicitDefEqProofs (maxSteps:=2000000) (disch:=try exact Dz) only[↓DN,↓kRet,UP,simprocAttr,PE,hc,b1,b2,hb,↓ih',cN,cR,Tryz.f126];simp only[visG,hb,if_true]
  |false=>
   cases b with
   |true=>
    have ih':=ih (i+1) m (seen.set (ns.getD i 0).toNat true) (f++[ns.getD i 0]) true (f.length+1) (by omega) (by omega) (by simp[hs]) (by simp;omega) (by simp);rw[e4]at ih';clear ih hmem;simp -implicitDefEqProofs (maxSteps:=2000000) (disch:=try exact Dz) only[↓DN,↓kRet,UP,simprocAttr,PE,hc,b1,b2,hb,↓SM,↓ih',cN,cR,Tryz.f126];simp only[visG,hb,Ak,if_false,Bool.true_or]
   |false=>
    cases hg:gl (ns.getD i 0)with
    |true=>
     have ih':=ih (i+1) m (seen.set (ns.getD i 0).toNat true) (f++[ns.getD i 0]) true (f.length+1) (by omega) (by omega) (by simp[hs]) (by simp;omega) (by simp);rw[e4]at ih';clear ih hmem;simp -implicitDefEqProofs (maxSteps:=2000000) (disch:=try exact Dz) only[↓DN,↓kRet,UP,simprocAttr,PE,aGM,hc,b1,b2,hb,hg,↓SM,↓kc_g,↓ih',cN,cR,Tryz.f126];simp only[visG,hb,hg,Ak,if_false,Bool.or_true]
    |false=>
     have ih':=ih (i+1) m (seen.set (ns.getD i 0).toNat true) (f++[ns.getD i 0]) false (f.length+1) (by omega) (by omega) (by simp[hs]) (by simp;omega) (by simp);rw[e4]at ih';clear ih hmem;simp -implicitDefEqProofs (maxSteps:=2000000) (disch:=try exact Dz) only[↓DN,↓kRet,UP,simprocAttr,PE,aGM,hc,b1,b2,hb,hg,↓SM,↓kc_g,↓ih',cN,cR,Tryz.f126];simp only[visG,hb,hg,Ak,if_false,Bool.or_false]
theorem aNN(hn:3<=n)(hL:2^60<=L){I:Int->Prop}{gl:Int->Bool}{gf:FuncId}{caps:List D}{size:Nat}{p l:Int}{ns:List Int}{sc:List D}{se sg sn:Nat}(kc_g:∀ {R:Type} {n:Nat} {hq:H} {k:KA R} (x:Int),2<=n->I x->a6 env (aA env L n) hq gf (nI x::caps.map A.d) k=k (.d (.bool (gl x))) hq)(hI:∀x∈ns,I x)(hr:∀x,I x->0<=x/\x<size)(hsz:size<=4294967296)(hnl:ns.length<=4294967290){k:KE R}:∀(j i m:Nat) (seen:List Bool) (f:List Int) (b:Bool) (len:Nat) (hi:i+j=ns.length) (hm:j<m) (hs:seen.length=size) (hf:f.length<=i) (hlen:len=f.length),
  aM env (aA env L n) L (6) (W8 (W2 [2])) Bz9 (i8 0) Bz25 m (nI p::nI l::Y1 (.ptr 0 0 0::.ptr 1 0 0::.ptr 2 0 0::Y2 (Y1 (.d (.bool false)::.sl 6 0 0 len::.d (.bool b)::Y2 (.sl 3 0 0 ns.length::nI (ns.length)::nI i::Y32 (Y1 ([]))))))) [.box [.sl 4 0 0 size],.box [.d (.fn gf caps)],.box [.sl 5 sg 0 sn],.arr (ints ns) 1 0,.arr (dG seen) 1 0,.arr sc se sg,.arr (ints f) 1 0] k
  =k (.exit 0) (nI p::nI l::Y1 (.ptr 0 0 0::.ptr 1 0 0::.ptr 2 0 0::Y2 (Y1 (.d (.bool false)::.sl 6 0 0 (visG gl (ns.drop i) seen f b).2.1.length::.d (.bool (((visG gl (ns.drop i) seen f b).2.2)))::Y2 (.sl 3 0 0 ns.length::nI (ns.length)::nI (ns.length)::Y32 (Y1 ([]))))))) [.box [.sl 4 0 0 size],.box [.d (.fn gf caps)],.box [.sl 5 sg 0 sn],.arr (ints ns) 1 0,.arr (dG (visG gl (ns.drop i) seen f b).1) 1 0,.arr sc se sg,.arr (ints (visG gl (ns.drop i) seen f b).2.1) 1 0]:=by
 intro j
 induction j with
 |zero=>
  intro i m seen f b len hi hm hs hf hlen;obtain _|m:=m;omega;obtain rfl:i=ns.length:=by omega
  subst hlen;simp -implicitDefEqProofs (maxSteps:=2000000) (disch:=try exact Dz) only[↓DN,↓kRet,UP,simprocAttr,PE,Aj,cN,cR,Tryz.f126];simp only[Ca,visG]
 |succ j ih=>
  intro i m seen f b len hi hm hs hf hlen;obtain _|m:=m;omega;subst hlen;have hc:(i:Int)<ns.length:=by omega
  have hk:i<ns.length:=by omega
  have hmem:ns.getD i 0∈ns:=by rw[Aa,Ae hk];exact Az hk
  have hIx:=hI _ hmem;obtain⟨b1,b2⟩:=hr _ hIx;have b3:(ns.getD i 0).toNat<seen.length:=by omega
  have e4:((i+1:Nat):Int)=(i:Int)+1:=by omega
  rw[cI hk (d:=0)]
  cases hb:seen.getD (ns.getD i 0).toNat false with
  |true=>
   have ih':=ih (i+1) m seen f b f.length (by omega) (by omega) hs (by omega) rfl;rw[e4]at ih';clear ih hmem;simp -implicitDefEqProofs (maxSteps:=2000000) (disch:=try exact Dz) only[↓DN,↓kRet,UP,simprocAttr,PE,hc,b1,b2,hb,↓ih',cN,cR,Tryz.f126];simp only[visG,hb,if_true]
  |false=>
   cases b with
   |true=>
    have ih':=ih (i+1) m (seen.set (ns.getD i 0).toNat true) (f++[ns.getD i 0]) true (f.length+1) (by omega) (by omega) (by simp[hs]) (by simp;omega) (by simp);rw[e4]at ih';clear ih hmem;simp -implicitDefEqProofs (maxSteps:=2000000) (disch:=try exact Dz) only[↓DN,↓kRet,UP,simprocAttr,PE,hc,b1,b2,hb,↓SZ,↓ih',cN,cR,Tryz.f126];simp only[visG,hb,Ak,if_false,Bool.true_or]
   |false=>
    cases hg:gl (ns.getD i 0)with
    |true=>
     have ih':=ih (i+1) m (seen.set (ns.getD i 0).toNat true) (f++[ns.getD i 0]) true (f.length+1) (by omega) (by omega) (by simp[hs]) (by simp;omega) (by simp);rw[e4]at ih';clear ih hmem;simp -implicitDefEqProofs (maxSteps:=2000000) (disch:=try exact Dz) only[↓DN,↓kRet,UP,simprocAttr,PE,aGM,hc,b1,b2,hb,hg,↓SZ,↓kc_g,↓ih',cN,cR,Tryz.f126];simp only[visG,hb,hg,Ak,if_false,Bool.or_true]
    |false=>
     have ih':=ih (i+1) m (seen.set (ns.getD i 0).toNat true) (f++[ns.getD i 0]) false (f.length+1) (by omega) (by omega) (by simp[hs]) (by simp;omega) (by simp);rw[e4]at ih';clear ih hmem;simp -implicitDefEqProofs (maxSteps:=2000000) (disch:=try exact Dz) only[↓DN,↓kRet,UP,simprocAttr,PE,aGM,hc,b1,b2,hb,hg,↓SZ,↓kc_g,↓ih',cN,cR,Tryz.f126];simp only[visG,hb,hg,Ak,if_false,Bool.or_false]
theorem aTJ(hn:4<=n)(hL:2^60<=L){I:Int->Prop}{gl:Int->Bool}{gf:FuncId}{caps:List D}{size:Nat}{p l:Int}{ns:List Int}(kc_g:∀ {R:Type} {n:Nat} {hq:H} {k:KA R} (x:Int),2<=n->I x->a6 env (aA env L n) hq gf (nI x::caps.map A.d) k=k (.d (.bool (gl x))) hq)(hI:∀x∈ns,I x)(hr:∀x,I x->0<=x/\x<size)(hsz:size<=4294967290)(hnl:ns.length<=4294967290)(seen:List Bool)(hs:seen.length=size)(r:List Bool×List Int×Bool)(he:visG gl ns seen [] false=r)(hpos:(0:Int)<r.2.1.length):
  aA env L n 126 [nI p,nI l,.d (.ivs ns.length (ints ns)),.ptr 0 0 0,.ptr 1 0 0,.ptr 2 0 0] [.box [.sl 3 0 0 size],.box [.d (.fn gf caps)],.box [.sl 4 0 0 0],.arr (dG seen) 1 0,.arr [] 0 0]
  =some (.d (.bool r.2.2),[.box [.sl 3 0 0 size],.box [.d (.fn gf caps)],.box [.sl 4 1 0 1],.arr (dG r.1) 1 0,.arr (cG [⟨p,l,r.2.1⟩]) 3 1]):=by
 have loop_c:=fun {R:Type} {n:Nat} (hn:3<=n) {k:KE R}=> @aNj R L n hn hL I gl gf caps size p l ns [] 0 0 0 (fun {R n hq k}=>kc_g) hI hr (by omega) hnl k ns.length 0 L seen [] false 0 (by omega) (by omega) hs (by simp) rfl;simp only[Bc,he,oK,Aq]at loop_c
 have hb:r.2.1.length<=size:=by
  have h1:=HE ns seen [] fun x hx=>by rw[hs];exact hr x (hI x hx)
  have h2:=TS seen;rw[<-(zI gl ns seen [] false).1,<-(zI gl ns seen [] false).2,he]at h1;simp only[Ac,Ag]at h1;omega
 have et:(ints r.2.1).take r.2.1.length=ints r.2.1:=eS (Ab _);obtain _|n:=n;omega;simp -implicitDefEqProofs (maxSteps:=2000000) (disch:=try exact Dz) only[↓DN,↓kAsg,↓kRet,UP,simprocAttr,PE,↓loop_c,hpos,et,uA,oP,Tryz.f126];rfl
theorem aTE(hn:4<=n)(hL:2^60<=L){I:Int->Prop}{gl:Int->Bool}{gf:FuncId}{caps:List D}{size:Nat}{p l:Int}{ns:List Int}(kc_g:∀ {R:Type} {n:Nat} {hq:H} {k:KA R} (x:Int),2<=n->I x->a6 env (aA env L n) hq gf (nI x::caps.map A.d) k=k (.d (.bool (gl x))) hq)(hI:∀x∈ns,I x)(hr:∀x,I x->0<=x/\x<size)(hsz:size<=4294967290)(hnl:ns.length<=4294967290)(seen:List Bool)(hs:seen.length=size)(st:List PStep)(hst:st.length<=4294967290)(r:List Bool×List Int×Bool)(he:visG gl ns seen [] false=r):
  aA env L n 126 [nI p,nI l,.sl 3 0 0 ns.length,.ptr 0 0 0,.ptr 1 0 0,.ptr 2 0 0] [.box [.sl 4 0 0 size],.box [.d (.fn gf caps)],.box [.sl 5 0 0 st.length],.arr (ints ns) 1 0,.arr (dG seen) 1 0,.arr (cG st) 3 0]
  =some (.d (.bool r.2.2),[.box [.sl 4 0 0 size],.box [.d (.fn gf caps)],.box [.sl 5 (if r.2.1=[]then 0 else 1) 0 (addP st p l r.2.1).length],.arr (ints ns) 1 0,.arr (dG r.1) 1 0,.arr (cG (addP st p l r.2.1)) 3 (if r.2.1=[]then 0 else 1)]):=by
 have loop_c:=fun {R:Type} {n:Nat} (hn:3<=n) {k:KE R}=> @aNN R L n hn hL I gl gf caps size p l ns (cG st) 3 0 st.length (fun {R n hq k}=>kc_g) hI hr (by omega) hnl k ns.length 0 L seen [] false 0 (by omega) (by omega) hs (by simp) rfl;simp only[Bc,he,oK,Aq]at loop_c
 have hb:r.2.1.length<=size:=by
  have h1:=HE ns seen [] fun x hx=>by rw[hs];exact hr x (hI x hx)
  have h2:=TS seen;rw[<-(zI gl ns seen [] false).1,<-(zI gl ns seen [] false).2,he]at h1;simp only[Ac,Ag]at h1;omega
 have et:(ints r.2.1).take r.2.1.length=ints r.2.1:=eS (Ab _);have es:(cG st).take (st.length*3)=cG st:=O9 (Ab _);unfold addP
 by_cases hf:r.2.1=[]
 ·rw[if_pos hf,if_pos hf];have hz:r.2.1.length=0:=by rw[hf];rfl
  rw[hz]at loop_c;obtain _|n:=n;omega;simp -implicitDefEqProofs (maxSteps:=2000000) (disch:=try exact Dz) only[↓DN,↓kAsg,↓kRet,UP,simprocAttr,PE,↓loop_c,Aq,Aj,uA,oP,Tryz.f126]
 ·rw[if_neg hf,if_neg hf];have hpos:(0:Int)<r.2.1.length:=by have:=Dv.2 hf;omega
  obtain _|n:=n;omega;simp -implicitDefEqProofs (maxSteps:=2000000) (disch:=try exact Dz) only[↓DN,↓kAsg,↓kRet,UP,simprocAttr,PE,↓loop_c,hpos,et,es,aLt,uA,oP,Tryz.f126]
end
section
variable{R:Type}{L n:Nat}
theorem aQy{st:List PStep}{p l:Int}{f:List Int}{i:Nat}(h:i<st.length):(addP st p l f).getD i default=st.getD i default:=by
 unfold addP
 split
 ·rfl
 ·exact lM h
theorem aQI{nx:Int->Int->List Int}{l:Int}:flat nx [] l=[]:=rfl
theorem aFJ{nx:Int->Int->List Int}{n l:Int}{ns:List Int}:flat nx (n::ns) l=nx n l++flat nx ns l:=rfl
theorem aH4{nx:Int->Int->List Int}{c:Int}(hw:∀x c,(nx x c).length<=64):∀ns:List Int,(flat nx ns c).length<=64*ns.length
 | []=>by simp[flat]
 |x::ns=>by simp only[aFJ,Af,Ad];have:=hw x c;have:=aH4 (c:=c) hw ns;omega
def ltI(nx:Int->Int->List Int)(gl:Int->Bool)(ns:List Int)(p:Int):List Int->List Bool×List PStep->Nat
 | [],_=>0
 |l::ls,q=>if(visG gl (flat nx ns l) q.1 [] false).2.2=true then 0 else ltI nx gl ns p ls ((visG gl (flat nx ns l) q.1 [] false).1,addP q.2 p l (visG gl (flat nx ns l) q.1 [] false).2.1)+1
def outI(nx:Int->Int->List Int)(gl:Int->Bool)(ls:List Int):Nat->Nat->List Bool×List PStep->Nat
 |0,i,_=>i
 |j+1,i,q=>if i<q.2.length then
   (if(ltG nx gl (q.2.getD i default).ns i ls q).1=true then i
    else outI nx gl ls j (i+1) (ltG nx gl (q.2.getD i default).ns i ls q).2)
  else i
def txt(w:List Int):List UInt8:=w.map b7
def WF(st:List PStep):List UInt8:=txt (gX st st.length (st.length-1))
theorem OH{R:Type}{E:Env}{call:aZ}{h:H}{f:FuncId}{args:List A}{len:Nat}{k:KA R}{id e g e2 g2:Nat}{cs cs2:List D}(hi:h[id]? =some (.arr cs e g))(hid:idsL args=[id])(hm:(E.hint f).mode=0)(he:call f (aE (aH [id]) args) [.arr cs e g]=some (.sl 0 g2 0 len,[.arr cs2 e2 g2])):
  a6 E call h f args k=k (.sl id g2 0 len) (h.set id (.arr cs2 e2 g2)):=by
 have hre:aD aG h [id] []=[id]:=by
  have e1:aD aG h [id] []=match h[id]? with
   |some (.box cs)=>aD (aG-1) h ([]++idsL cs) ([]++[id])
   |some (.vec cs _ _)=>aD (aG-1) h ([]++idsL cs) ([]++[id])
   |some .void=>aD (aG-1) h [] []
   |some _=>aD (aG-1) h [] ([]++[id])
   |none=>aD (aG-1) h [] []:=rfl
  rw[e1,hi];rfl
 have hpk:pack h [id]=[.arr cs e g]:=by
  simp only[pack,Ai,Ap,Aa,hi];rfl
 unfold a6;rw[hid,hre,hpk]
 have hc:b8 call E.hint [.arr cs e g] f (aE (aH [id]) args)=some (.sl 0 g2 0 len,[.arr cs2 e2 g2]):=by
  unfold b8;rw[hm];exact he
 rw[hc]
 have hcl:closed h [id] [id]=true:=by
  simp only[closed,Bs,Cb,hi];simp
 have hb:back [id] h.length 1 0=some id:=rfl;simp only[Ad,Ac,Ab,hcl,and_self,if_true,mapA,Ag,hb];simp only[bG,mapO,Ap,Ah]
theorem aL5(hn:4<=n)(hL:2^60<=L){I:Int->Prop}{nf:FuncId}{caps:List D}{gb:D}{size:Nat}{nx:Int->Int->List Int}{ls ns:List Int}{sc:List D}{seen:List Bool}{sn ii q:Nat}{c:Int}
  (kc_n:∀ {R:Type} {n id:Nat} {hq:H} {k:KA R} (x c:Int) (o:List Int),4<=n->I x->0<=c->c<6->o.length<=2147483648->hq[id]? =some (.arr (ints o) 1 0)->a6 env (aA env L n) hq nf (nI x::nI c::.sl id 0 0 o.length::caps.map A.d) k=k (.sl id (nx x c).length 0 (o++nx x c).length) (hq.set id (.arr (ints (o++nx x c)) 1 (nx x c).length)))
  (hI:∀x∈ns,I x) (hw:∀x c,(nx x c).length<=64) (hc0:0<=c) (hc6:c<6) (hnl:ns.length<=16777216) {k:KE R}:∀(j i m:Nat) (o:List Int) (len:Nat) (hi:i+j=ns.length) (hm:j<m) (ho:o.length<=64*i) (hlen:len=o.length),
  aM env (aA env L n) L 0 (W16 (W2 [2])) Bz2 (dF 2) (U2 (Z2 (U4 (U2 (Z2 (U1 (Z2 (Z1 (U1 (Z2 (U8 (U4 (U2 (Z2 (Z1 (U4 (U2 (U1 (Z2 (Z1 (U16 (U1 ([]))))))))))))))))))))))) m (Y2 (.d (.ivs ls.length (ints ls))::.d (.fn nf caps)::Y4 (Y2 (.d (.str [])::.d (.bool false)::Y1 (.ptr 0 0 0::.clo 126 [.ptr 1 0 0,.ptr 2 0 0,.ptr 0 0 0]::nI ii::Y1 (nI c::.sl 3 0 0 len::Y8 (Y4 (Y2 (.d (.ivs ls.length (ints ls))::nI (ls.length)::nI q::Y4 (Y2 (Y1 (.d (.ivs ns.length (ints ns))::nI (ns.length)::nI i::Y16 (Y1 ([])))))))))))))) [.box [.sl 4 0 0 sn],.box [.sl 5 0 0 size],.box [.d gb],.arr (ints o) 1 0,.arr sc 3 0,.arr (dG seen) 1 0] k
  =k (.exit 4) (Y2 (.d (.ivs ls.length (ints ls))::.d (.fn nf caps)::Y4 (Y2 (.d (.str [])::.d (.bool false)::Y1 (.ptr 0 0 0::.clo 126 [.ptr 1 0 0,.ptr 2 0 0,.ptr 0 0 0]::nI ii::Y1 (nI c::.sl 3 0 0 (o++flat nx (ns.drop i) c).length::Y8 (Y4 (Y2 (.d (.ivs ls.length (ints ls))::nI (ls.length)::nI q::Y4 (Y2 (Y1 (.d (.ivs ns.length (ints ns))::nI (ns.length)::nI (ns.length)::Y16 (Y1 ([])))))))))))))) [.box [.sl 4 0 0 sn],.box [.sl 5 0 0 size],.box [.d gb],.arr (ints (o++flat nx (ns.drop i) c)) 1 0,.arr sc 3 0,.arr (dG seen) 1 0]:=by
 intro j
 induction j with
 |zero=>
  intro i m o len hi hm ho hlen;obtain _|m:=m;omega;obtain rfl:i=ns.length:=by omega
  subst hlen;simp -implicitDefEqProofs (maxSteps:=2000000) (disch:=try exact Dz) only[↓DN,↓kRet,UP,simprocAttr,Aj,DC,xL,Tryz.f94];simp only[Ca,aQI,Ah,Ac,Bp]
 |succ j ih=>
  intro i m o len hi hm ho hlen;obtain _|m:=m;omega;subst hlen;have hc:(i:Int)<ns.length:=by omega
  have hk:i<ns.length:=by omega
  have hmem:ns.getD i 0∈ns:=by rw[Aa,Ae hk];exact Az hk
  have hIx:=hI _ hmem;have hww:=hw (ns.getD i 0) c;have hob:o.length<=2147483648:=by omega
  have e4:((i+1:Nat):Int)=(i:Int)+1:=by omega
  have ih':=ih (i+1) m (o++nx (ns.getD i 0) c) (o.length+(nx (ns.getD i 0) c).length) (by omega) (by omega) (by rw[Af];omega) (by rw[Af]);rw[e4]at ih';rw[cI hk (d:=0)];simp only[aFJ,<-Ao];have kc_m:=fun {R:Type} {n id:Nat} {hq:H} {k:KA R} (h4:4<=n) (hg:hq[id]? =some (.arr (ints o) 1 0))=> @kc_n R n id hq k (ns.getD i 0) c o h4 hIx hc0 hc6 hob hg;clear ih hmem kc_n;generalize nx (ns.getD i 0) c=w at *;simp -implicitDefEqProofs (maxSteps:=2000000) (disch:=try exact Dz) only[↓DN,↓kRet,UP,simprocAttr,hc,↓kc_m,↓ih',DC,xL,Tryz.f94]
theorem UX:∀(ns:List Int) (s:List Bool) (f:List Int),f.length<=(visF ns s f).2.length
 | [],s,f=>Ab _
 |n::ns,s,f=>by
  unfold visF
  split
  ·exact UX ns s f
  ·have:=UX ns (s.set n.toNat true) (f++[n]);simp only[Af,Ad,Ac]at this;omega
theorem aIq{ns:List Int}{size:Nat}(h:ns≠[]):0<(visF ns (List.replicate size false) []).2.length:=by
 cases ns with
 |nil=>exact absurd rfl h
 |cons n ns=>
  have e:(List.replicate size false).getD n.toNat false=false:=by
   rw[Aa,List.getElem?_replicate]
   split<;>rfl
  unfold visF;rw[e];have:=UX ns ((List.replicate size false).set n.toNat true) ([]++[n]);simp only[Af,Ad,Ac]at this;simp only[Ak,if_false];omega
theorem aTT{k:KA R}(hn:4<=n)(hL:2^60<=L){I:Int->Prop}{gl:Int->Bool}{gf:FuncId}{caps:List D}{size:Nat}{p l:Int}{ns:List Int}(kc_g:∀ {R:Type} {n:Nat} {hq:H} {k:KA R} (x:Int),2<=n->I x->a6 env (aA env L n) hq gf (nI x::caps.map A.d) k=k (.d (.bool (gl x))) hq)(hI:∀x∈ns,I x)(hr:∀x,I x->0<=x/\x<size)(hsz:size<=4294967290)(hnl:ns.length<=4294967290)(hne:ns≠[]):
  xH env (aA env L n) [.box [.d (.fn gf caps)],.arr (dG (List.replicate size false)) 1 0,.arr [] 0 0,.box [.sl 1 0 0 size],.arr [] 0 0,.box [.sl 4 0 0 0]] 126 [.ptr 3 0 0,.ptr 0 0 0,.ptr 5 0 0] [nI p,nI l,.d (.ivs ns.length (ints ns))] k
  =k (.d (.bool (visG gl ns (List.replicate size false) [] false).2.2)) [.box [.d (.fn gf caps)],.arr (dG (visG gl ns (List.replicate size false) [] false).1) 1 0,.arr [] 0 0,.box [.sl 1 0 0 size],.arr (cG [⟨p,l,(visG gl ns (List.replicate size false) [] false).2.1⟩]) 3 1,.box [.sl 4 1 0 1]]:=by
 have he:=aTJ (gl:=gl) (p:=p) (l:=l) hn hL (fun {R n hq k}=>kc_g) hI hr hsz hnl (List.replicate size false) (by simp) _ rfl (by have:=aIq (size:=size) hne;rw[(zI gl ns _ [] false).2];omega);unfold xH;generalize List.replicate size false=sz at *;generalize hh:[O.box [.d (.fn gf caps)],.arr (dG sz) 1 0,.arr [] 0 0,.box [.sl 1 0 0 size],.arr [] 0 0,.box [.sl 4 0 0 0]]=h;have hre:aD aG h (idsL [A.ptr 3 0 0,.ptr 0 0 0,.ptr 5 0 0]++idsL [A.d (.int .i64 p),nI l,.d (.ivs ns.length (ints ns))]) []=[3,0,5,1,4]:=by subst hh;rfl
 have hpk:pack h [3,0,5,1,4]=[.box [.sl 3 0 0 size],.box [.d (.fn gf caps)],.box [.sl 4 0 0 0],.arr (dG sz) 1 0,.arr [] 0 0]:=by subst hh;rfl
 have hma:aE (aH [3,0,5,1,4]) [A.d (.int .i64 p),nI l,.d (.ivs ns.length (ints ns))]++aE (aH [3,0,5,1,4]) [A.ptr 3 0 0,.ptr 0 0 0,.ptr 5 0 0]=[nI p,nI l,.d (.ivs ns.length (ints ns)),.ptr 0 0 0,.ptr 1 0 0,.ptr 2 0 0]:=rfl
 have hca:∀h f args,b8 (aA env L n) env.hint h f args=if(env.hint f).mode=0 then aA env L n f args h else b8 (aA env L n) env.hint h f args:=by
  intro h f args
  split
  ·rename_i hm
   unfold b8;rw[hm];rfl
  ·rfl
 rw[hre,hpk,hma,hca,if_pos lQ,he];have hcl:closed h [3,0,5,1,4] (idsL [A.ptr 3 0 0,.ptr 0 0 0,.ptr 5 0 0]++idsL [A.d (.int .i64 p),nI l,.d (.ivs ns.length (ints ns))])=true:=by subst hh;rfl
 subst hh;simp only[hcl,Ad,Ac,Ab,and_self,if_true];rfl
def gV(r:List Bool×List Int×Bool):Nat:=if r.2.1=[]then 0 else 1
theorem aTW{k:KA R}(hn:4<=n)(hL:2^60<=L){I:Int->Prop}{gl:Int->Bool}{gf:FuncId}{caps:List D}{size:Nat}{p l:Int}{ns:List Int}(kc_g:∀ {R:Type} {n:Nat} {hq:H} {k:KA R} (x:Int),2<=n->I x->a6 env (aA env L n) hq gf (nI x::caps.map A.d) k=k (.d (.bool (gl x))) hq)(hI:∀x∈ns,I x)(hr:∀x,I x->0<=x/\x<size)(hsz:size<=4294967290)(hnl:ns.length<=4294967290)(seen:List Bool)(hs:seen.length=size)(st:List PStep)(hst:st.length<=4294967290):
  xH env (aA env L n) [.box [.sl 4 0 0 st.length],.box [.sl 5 0 0 size],.box [.d (.fn gf caps)],.arr (ints ns) 1 0,.arr (cG st) 3 0,.arr (dG seen) 1 0] 126 [.ptr 1 0 0,.ptr 2 0 0,.ptr 0 0 0] [nI p,nI l,.sl 3 0 0 ns.length] k
  =k (.d (.bool (visG gl ns seen [] false).2.2)) [.box [.sl 4 (gV (visG gl ns seen [] false)) 0 (addP st p l (visG gl ns seen [] false).2.1).length],.box [.sl 5 0 0 size],.box [.d (.fn gf caps)],.arr (ints ns) 1 0,.arr (cG (addP st p l (visG gl ns seen [] false).2.1)) 3 (gV (visG gl ns seen [] false)),.arr (dG (visG gl ns seen [] false).1) 1 0]:=by
 have he:=aTE (gl:=gl) (p:=p) (l:=l) hn hL (fun {R n hq k}=>kc_g) hI hr hsz hnl seen hs st hst _ rfl;unfold xH;generalize hh:[O.box [.sl 4 0 0 st.length],.box [.sl 5 0 0 size],.box [.d (.fn gf caps)],.arr (ints ns) 1 0,.arr (cG st) 3 0,.arr (dG seen) 1 0]=h;have hre:aD aG h (idsL [A.ptr 1 0 0,.ptr 2 0 0,.ptr 0 0 0]++idsL [A.d (.int .i64 p),nI l,.sl 3 0 0 ns.length]) []=[1,2,0,3,5,4]:=by subst hh;rfl
 have hpk:pack h [1,2,0,3,5,4]=[.box [.sl 4 0 0 size],.box [.d (.fn gf caps)],.box [.sl 5 0 0 st.length],.arr (ints ns) 1 0,.arr (dG seen) 1 0,.arr (cG st) 3 0]:=by subst hh;rfl
 have hma:aE (aH [1,2,0,3,5,4]) [A.d (.int .i64 p),nI l,.sl 3 0 0 ns.length]++aE (aH [1,2,0,3,5,4]) [A.ptr 1 0 0,.ptr 2 0 0,.ptr 0 0 0]=[nI p,nI l,.sl 3 0 0 ns.length,.ptr 0 0 0,.ptr 1 0 0,.ptr 2 0 0]:=rfl
 have hca:∀h f args,b8 (aA env L n) env.hint h f args=if(env.hint f).mode=0 then aA env L n f args h else b8 (aA env L n) env.hint h f args:=by
  intro h f args
  split
  ·rename_i hm
   unfold b8;rw[hm];rfl
  ·rfl
 rw[hre,hpk,hma,hca,if_pos lQ,he];have hcl:closed h [1,2,0,3,5,4] (idsL [A.ptr 1 0 0,.ptr 2 0 0,.ptr 0 0 0]++idsL [A.d (.int .i64 p),nI l,.sl 3 0 0 ns.length])=true:=by subst hh;rfl
 subst hh;simp only[hcl,Ad,Ac,Ab,and_self,if_true];rfl
end
def chG(ls:List Int)(w:Str):List Str:=ls.map fun l=>w++[b7 l]
def lvG(ls:List Int):Nat->List Str
 |0=>[[]]
 |k+1=>(lvG ls k).flatMap (chG ls)
def midG(ls:List Int):Nat->List Str
 |0=>[[]]
 |k+1=>midG ls k++lvG ls (k+1)
theorem aKg{ls:List Int}{w:Str}:(chG ls w).length=ls.length:=by simp[chG]
theorem WQ{ls:List Int}:∀k,(lvG ls k).length=ls.length^k
 |0=>rfl
 |k+1=>by
  have e:∀l:List Str,(l.flatMap (chG ls)).length=l.length*ls.length:=by
   intro l
   induction l with
   |nil=>simp
   |cons a l ih=>rw[List.flatMap_cons,Af,ih,aKg,Ad,Bx];omega
  show((lvG ls k).flatMap (chG ls)).length=_;rw[e,WQ k,Nat.pow_succ]
theorem GX{ls:List Int}:∀k,∀w∈lvG ls k,w.length=k/\∀b∈w,∃l∈ls,b=b7 l
 |0,w,h=>by
  obtain rfl:w=[]:=by simpa [lvG]using h
  exact⟨rfl,by simp⟩
 |k+1,w,h=>by
  obtain⟨v,hv,hw⟩:=Di.1 h;obtain⟨l,hl,rfl⟩:=Bq.1 hw;obtain⟨h1,h2⟩:=GX k v hv;refine⟨by simp[h1],fun b hb=> ?_⟩
  rcases Al.1 hb with hb|hb
  ·exact h2 b hb
  ·exact⟨l,hl,by simpa using hb⟩
theorem aEu{ls:List Int}:∀k,∀w∈midG ls k,w.length<=k/\∀b∈w,∃l∈ls,b=b7 l
 |0,w,h=>by
  obtain rfl:w=[]:=by simpa [midG]using h
  exact⟨Ab _,by simp⟩
 |k+1,w,h=>by
  rcases Al.1 h with h|h
  ·obtain⟨h1,h2⟩:=aEu k w h;exact⟨by omega,h2⟩
  ·obtain⟨h1,h2⟩:=GX (k+1) w h;exact⟨by omega,h2⟩
theorem aN6{ls:List Int}:∀k,∃p,midG ls k=p++lvG ls k
 |0=>⟨[],rfl⟩
 |k+1=>⟨midG ls k,rfl⟩
theorem E9{ls:List Int}(hl:ls.length<=6):∀k,k<=3->(midG ls k).length<=259:=by
 have h1:ls.length^1<=6^1:=Nat.pow_le_pow_left hl 1;have h2:ls.length^2<=6^2:=Nat.pow_le_pow_left hl 2;have h3:ls.length^3<=6^3:=Nat.pow_le_pow_left hl 3;intro k hk
 rcases(show k=0\/k=1\/k=2\/k=3 by omega)with rfl|rfl|rfl|rfl
 ·simp[midG]
 ·simp only[midG,Af,WQ,Co,Ag];omega
 ·simp only[midG,Af,WQ,Co,Ag,Nat.reduceAdd];omega
 ·simp only[midG,Af,WQ,Co,Ag,Nat.reduceAdd];omega
def insW(ws:List Str)(w:Str):List Str:=if w∈ws then ws else ws++[w]
def dL(ws l:List Str):List Str:=l.foldl insW ws
def bA(ws:List Str)(w:Str):Nat:=ws.countP fun x=>decide (cmpX x w<0)
def ordW(ws:List Str)(w:Str):List Str:=if w∈ws then ws else ws.take (bA ws w)++w::ws.drop (bA ws w)
def iK(ws l:List Str):List Str:=l.foldl ordW ws
def m5(ws:List Str):Prop:=ws.Pairwise fun x y=>cmpX x y<0
theorem aMU{ws:List Str}:dL ws []=ws:=rfl
theorem O4{ws l:List Str}{w:Str}:dL ws (w::l)=dL (insW ws w) l:=rfl
theorem aME{ws l m:List Str}:dL ws (l++m)=dL (dL ws l) m:=by simp[dL]
theorem YG{ws l:List Str}{w:Str}:iK ws (w::l)=iK (ordW ws w) l:=rfl
theorem aLr{ws l m:List Str}:iK ws (l++m)=iK (iK ws l) m:=by simp[iK]
theorem aKs{ws:List Str}{w:Str}:ws.length<=(insW ws w).length/\(insW ws w).length<=ws.length+1:=by
 unfold insW;split<;>simp
theorem aAT:∀ {l ws:List Str},ws.length<=(dL ws l).length/\(dL ws l).length<=ws.length+l.length
 | [],ws=>⟨Ab _,Ab _⟩
 |w::l,ws=>by
  have h1:=aKs (ws:=ws) (w:=w);have h2:=aAT (l:=l) (ws:=insW ws w);rw[O4,Ad];omega
theorem aH1{ws:List Str}{w x:Str}:x∈insW ws w↔x∈ws\/x=w:=by
 unfold insW
 split
 ·rename_i h
  exact⟨.inl,fun h2=>h2.elim (fun h=>h) fun h2=>by rw[h2];exact h⟩
 ·simp
theorem S0{x:Str}:∀ {l ws:List Str},x∈dL ws l↔x∈ws\/x∈l
 | [],ws=>by simp[aMU]
 |w::l,ws=>by
  rw[O4,S0,aH1,Au]
  constructor
  ·rintro((h|h)|h)
   ·exact .inl h
   ·exact .inr (.inl h)
   ·exact .inr (.inr h)
  ·rintro(h|h|h)
   ·exact .inl (.inl h)
   ·exact .inl (.inr h)
   ·exact .inr h
theorem wZ:∀ {ws:List Str} (_:m5 ws) (w:Str) (i:Nat) (h:i<ws.length),cmpX ws[i] w<0↔i<bA ws w
 | [],_,_,_,h=>by simp at h
 |a::ws,hs,w,i,h=>by
  obtain⟨h1,h2⟩:=List.pairwise_cons.1 hs;unfold bA;rw[Du]
  by_cases ha:cmpX a w<0
  ·rw[if_pos (by simpa using ha)]
   cases i with
   |zero=>simp[ha]
   |succ i=>
    have:=wZ h2 w i (by simpa using h);unfold bA at this;rw[List.getElem_cons_succ,this];omega
  ·have h0:bA ws w=0:=by
    unfold bA;rw[List.countP_eq_zero];intro x hx;have:=h1 x hx;simp only[decide_eq_true_eq];exact fun h3=>ha (sJ this h3)
   rw[if_neg (by simpa using ha)];unfold bA at h0;rw[h0]
   cases i with
   |zero=>simpa using ha
   |succ i=>
    rw[List.getElem_cons_succ];have:=h1 (ws[i]'(by simpa using h)) (Az _)
    constructor
    ·intro h3;exact(ha (sJ this h3)).elim
    ·intro h3;omega
theorem aEy{ws:List Str}{w:Str}:bA ws w<=ws.length:=List.countP_le_length
theorem aMn{ws:List Str}(hs:m5 ws)(w:Str):(bA ws w<ws.length/\ws.getD (bA ws w) []=w)↔w∈ws:=by
 constructor
 ·rintro⟨h1,h2⟩;rw[Aa,Ae h1]at h2;have h2:ws[bA ws w]=w:=h2;rw[<-h2];exact Az _
 ·intro hm;obtain⟨i,hi,rfl⟩:=Cl hm;have h1:¬i<bA ws ws[i]:=fun h=>FY _ ((wZ hs _ i hi).2 h)
  have h2:¬bA ws ws[i]<i:=fun h=>by
   have h3:=List.pairwise_iff_getElem.1 hs (bA ws ws[i]) i (by omega) hi h;have:=(wZ hs ws[i] (bA ws ws[i]) (by omega)).1 h3;omega
  have e:bA ws ws[i]=i:=by omega
  refine⟨by omega,?_⟩;rw[e,Aa,Ae hi];rfl
theorem aFw{ws:List Str}(hs:m5 ws)(w:Str):m5 (ordW ws w):=by
 unfold ordW
 split
 ·exact hs
 ·rename_i hn
  have lt1:∀x∈ws.take (bA ws w),cmpX x w<0:=by
   intro x hx;obtain⟨i,hi,rfl⟩:=Cl hx;rw[Bt]at hi;rw[List.getElem_take];exact(wZ hs w i (by omega)).2 (by omega)
  have lt2:∀x∈ws.drop (bA ws w),cmpX w x<0:=by
   intro x hx;obtain⟨i,hi,rfl⟩:=Cl hx;rw[Cg]at hi;rw[List.getElem_drop]
   have h1:¬cmpX ws[bA ws w+i] w<0:=fun h=>by
    have:=(wZ hs w (bA ws w+i) (by omega)).1 h;omega
   rcases NR w ws[bA ws w+i]with h|h|h
   ·exact(hn (by rw[h];exact Az _)).elim
   ·exact h
   ·exact(h1 h).elim
  unfold m5;rw[List.pairwise_append];refine⟨hs.sublist (List.take_sublist _ _),List.pairwise_cons.2 ⟨lt2,hs.sublist (List.drop_sublist _ _)⟩,fun x hx y hy=> ?_⟩
  rcases Au.1 hy with rfl|hy
  ·exact lt1 x hx
  ·exact sJ (lt1 x hx) (lt2 y hy)
theorem L0:∀ {l ws:List Str},m5 ws->m5 (iK ws l)
 | [],_,h=>h
 |w::l,ws,h=>by rw[YG];exact L0 (l:=l) (ws:=ordW ws w) (aFw h w)
theorem ZP{ws vs:List Str}(h:ws.Perm vs)(w:Str):(ordW ws w).Perm (insW vs w):=by
 unfold ordW insW
 by_cases hm:w∈ws
 ·rw[if_pos hm,if_pos (h.mem_iff.1 hm)];exact h
 ·rw[if_neg hm,if_neg fun h2=>hm (h.mem_iff.2 h2)];refine List.perm_middle.trans ?_;rw[List.take_append_drop];refine(h.cons w).trans ?_;exact(List.perm_append_singleton w vs).symm
theorem BV:∀ {l ws vs:List Str},ws.Perm vs->(iK ws l).Perm (dL vs l)
 | [],_,_,h=>h
 |w::l,ws,vs,h=>by rw[YG,O4];exact BV (l:=l) (ZP h w)
theorem aRw{ws:List Str}{w:Str}:ws.length<=(ordW ws w).length/\(ordW ws w).length<=ws.length+1:=by
 have h:=(ZP (List.Perm.refl ws) w).length_eq;have:=aKs (ws:=ws) (w:=w);omega
theorem aLT{l ws:List Str}:ws.length<=(iK ws l).length:=by
 have h:=(BV (l:=l) (List.Perm.refl ws)).length_eq;have:=(aAT (l:=l) (ws:=ws)).1;omega
theorem aRi{l:List Str}(h:m5 l):l.Pairwise fun x y=>leX x y=true:=h.imp fun h=>aN7 h
theorem aLF{l m:List Str}(hl:m5 l)(h:m.Perm l):m.mergeSort leX=l:=by
 refine((List.mergeSort_perm m leX).trans h).eq_of_pairwise (fun x y _ _ h1 h2=>ZX h1 h2) ?_ (aRi hl);exact List.pairwise_mergeSort LI LE _
def endL(c m:Str)(ends:List Str):List Str:=ends.map fun e=>c++m++e
def midL(c:Str)(mids ends:List Str):List Str:=mids.flatMap fun m=>endL c m ends
def covL(cov mids ends:List Str):List Str:=cov.flatMap fun c=>midL c mids ends
def optF(f:Str->List Str->Bool×List Str):List Str->List Str->Option (List Str)
 | [],o=>some o
 |w::l,o=>if(f w o).1=true then optF f l (f w o).2 else none
def run3(f:Str->List Str->Bool×List Str)(ws:List Str):Nat->Nat->List Str->Bool×Nat×List Str
 |0,q,o=>(true,q,o)
 |j+1,q,o=>if(f (ws.getD q []) o).1=true then run3 f ws j (q+1) (f (ws.getD q []) o).2 else(false,q,(f (ws.getD q []) o).2)
theorem OW{f:Str->List Str->Bool×List Str}{ws:List Str}:∀(j q:Nat) (o:List Str),q+j=ws.length->optF f (ws.drop q) o=if(run3 f ws j q o).1=true then some (run3 f ws j q o).2.2 else none
 |0,q,o,h=>by
  obtain rfl:q=ws.length:=by omega
  rw[Ca];rfl
 |j+1,q,o,h=>by
  have hq:q<ws.length:=by omega
  have e:ws.drop q=ws.getD q []::ws.drop (q+1):=by
   rw[Dq hq,Aa,Ae hq];rfl
  rw[e];unfold optF run3
  by_cases hf:(f (ws.getD q []) o).1=true
  ·rw[if_pos hf,if_pos hf,OW j (q+1) _ (by omega)]
  ·rw[if_neg hf,if_neg hf,if_neg Bool.false_ne_true]
theorem BI{f:Str->List Str->Bool×List Str}{ws:List Str}{j q:Nat}{o:List Str}(h:(f (ws.getD q []) o).1=true):run3 f ws (j+1) q o=run3 f ws j (q+1) (f (ws.getD q []) o).2:=if_pos h
theorem F7{f:Str->List Str->Bool×List Str}{ws:List Str}{j q:Nat}{o:List Str}(h:(f (ws.getD q []) o).1=false):run3 f ws (j+1) q o=(false,q,(f (ws.getD q []) o).2):=if_neg (by rw[h];exact Bool.false_ne_true)
theorem FZ{f:Str->List Str->Bool×List Str}{g:Str->List Str}{ins:List Str->List Str->List Str}(h0:∀o,ins o []=o)(happ:∀o l m,ins o (l++m)=ins (ins o l) m)(hle:∀o l,o.length<=(ins o l).length)
  (hf:∀w o,o.length<=3000->if 3000<(ins o (g w)).length then(f w o).1=false else f w o=(true,ins o (g w))):∀(ws o:List Str),o.length<=3000->optF f ws o=if 3000<(ins o (ws.flatMap g)).length then none else some (ins o (ws.flatMap g))
 | [],o,h=>by
  rw[List.flatMap_nil,h0,if_neg (by omega)];rfl
 |w::ws,o,h=>by
  have hw:=hf w o h;rw[List.flatMap_cons,happ];unfold optF
  by_cases hc:3000<(ins o (g w)).length
  ·rw[if_pos hc]at hw;rw[hw,if_neg Bool.false_ne_true,if_pos];have:=hle (ins o (g w)) (ws.flatMap g);omega
  ·rw[if_neg hc]at hw;rw[hw,if_pos rfl];exact FZ h0 happ hle hf ws _ (Nat.le_of_not_lt hc)
theorem UQ{f:Str->List Str->Bool×List Str}{ws o z:List Str}(h:optF f ws o=if 3000<z.length then none else some z):if 3000<z.length then(run3 f ws ws.length 0 o).1=false else((run3 f ws ws.length 0 o).1,(run3 f ws ws.length 0 o).2.2)=(true,z):=by
 have e:=OW (f:=f) (ws:=ws) ws.length 0 o (by omega);rw[Bc,h]at e
 by_cases hc:3000<z.length
 ·rw[if_pos hc]at e|-
  cases hb:(run3 f ws ws.length 0 o).1 with
  |false=>rfl
  |true=>rw[hb,if_pos rfl]at e;cases e
 ·rw[if_neg hc]at e|-
  cases hb:(run3 f ws ws.length 0 o).1 with
  |false=>rw[hb,if_neg Bool.false_ne_true]at e;cases e
  |true=>rw[hb,if_pos rfl]at e;injection e with e;rw[e]
def midF(c:Str)(ends:List Str)(m:Str)(o:List Str):Bool×List Str:=(!decide (3000<(dL o (endL c m ends)).length),dL o (endL c m ends))
def covF(mids ends:List Str)(c:Str)(o:List Str):Bool×List Str:=((run3 (midF c ends) mids mids.length 0 o).1,(run3 (midF c ends) mids mids.length 0 o).2.2)
def endS(c m:Str)(e:Str)(o:List Str):Bool×List Str:=(!decide (3000<(ordW o (c++m++e)).length),ordW o (c++m++e))
def midZ(c:Str)(ends:List Str)(m:Str)(o:List Str):Bool×List Str:=((run3 (endS c m) ends ends.length 0 o).1,(run3 (endS c m) ends ends.length 0 o).2.2)
def covZ(mids ends:List Str)(c:Str)(o:List Str):Bool×List Str:=((run3 (midZ c ends) mids mids.length 0 o).1,(run3 (midZ c ends) mids mids.length 0 o).2.2)
theorem aKv{cov mids ends:List Str}:optF (covF mids ends) cov []=if 3000<(dL [] (covL cov mids ends)).length then none else some (dL [] (covL cov mids ends)):=by
 have ok:(∀o,dL o []=o)/\(∀o l m,dL o (l++m)=dL (dL o l) m)/\∀o l,o.length<=(dL o l).length:=⟨fun _=>rfl,fun _ _ _=>aME,fun _ _=>aAT.1⟩
 refine FZ ok.1 ok.2.1 ok.2.2 (fun c o ho=>UQ (FZ ok.1 ok.2.1 ok.2.2 (fun m o ho=> ?_) mids o ho)) cov [] (by simp);unfold midF
 split<;>simp[*]
theorem aTr{cov mids ends:List Str}:optF (covZ mids ends) cov []=if 3000<(iK [] (covL cov mids ends)).length then none else some (iK [] (covL cov mids ends)):=by
 have ok:(∀o,iK o []=o)/\(∀o l m,iK o (l++m)=iK (iK o l) m)/\∀o l,o.length<=(iK o l).length:=⟨fun _=>rfl,fun _ _ _=>aLr,fun _ _=>aLT⟩
 refine FZ ok.1 ok.2.1 ok.2.2 (fun c o ho=>UQ (FZ ok.1 ok.2.1 ok.2.2 (fun m o ho=>UQ ?_) mids o ho)) cov [] (by simp)
 have e:endL c m ends=ends.flatMap fun e=>[c++m++e]:=by unfold endL;induction ends with
  |nil=>rfl
  |cons x l ih=>simp only[Ai,List.flatMap_cons,ih,Ee]
 rw[e];refine FZ ok.1 ok.2.1 ok.2.2 (fun e o ho=> ?_) ends o ho;have e1:iK o [c++m++e]=ordW o (c++m++e):=rfl;unfold endS;rw[e1]
 split<;>rename_i hc<;>simp only[hc,decide_true,decide_false,Bool.not_true,Bool.not_false]
def rR(cov mids ends:List Str):Option (List Str):=if 3000<(iK [] (covL cov mids ends)).length then none else some (iK [] (covL cov mids ends))
theorem aLu{cov mids ends:List Str}:(optF (covF mids ends) cov []).map (fun ws=>ws.mergeSort leX)=rR cov mids ends:=by
 rw[aKv];unfold rR;have hp:=BV (l:=covL cov mids ends) (List.Perm.refl []);rw[hp.length_eq]
 split
 ·rfl
 ·rw[Ax,aLF (L0 List.Pairwise.nil) hp.symm]
theorem aNH{cov mids ends l:List Str}(h:rR cov mids ends=some l)(x:Str):x∈l↔∃c∈cov,∃m∈mids,∃e∈ends,x=c++m++e:=by
 unfold rR at h
 split at h
 ·cases h
 ·cases h;rw[(BV (l:=covL cov mids ends) (List.Perm.refl [])).mem_iff,S0]
  simp only[Bo,false_or,covL,midL,endL,Di,Bq]
  constructor
  ·rintro⟨c,hc,m,hm,e,he,rfl⟩;exact⟨c,hc,m,hm,e,he,rfl⟩
  ·rintro⟨c,hc,m,hm,e,he,rfl⟩;exact⟨c,hc,m,hm,e,he,rfl⟩
theorem aQE{cov mids ends l:List Str}(h:rR cov mids ends=some l):m5 l/\l.length<=3000:=by
 unfold rR at h
 split at h
 ·cases h
 ·cases h;exact⟨L0 List.Pairwise.nil,by omega⟩
section
variable{R:Type}{L n:Nat}
def badQ(n:Int)(r:List Int)(i:Nat):Bool:=!(decide (0<=r.getD i 0)&&decide (r.getD i 0<n))
def B8(w n:Int)(r:List Int):Bool:=!decide ((r.length:Int)=w)||(seek (badQ n r) r.length 0).isSome
def gK(w n:Int)(rs:List (List Int))(i:Nat):Bool:=B8 w n (rs.getD i [])
def dP(al:Int)(rs:List (List Int))(ac:List Bool):Bool:=
 kD al&&decide ((1:Int)<=rs.length)&&decide ((rs.length:Int)<=12)&&decide ((ac.length:Int)=rs.length)&&(seek (gK (aB al).length rs.length rs) rs.length 0).isNone
theorem aHE{w n:Int}{r:List Int}(h:¬(r.length:Int)=w):B8 w n r=true:=by
 unfold B8;rw[decide_eq_false h];rfl
theorem O8{w n:Int}{r:List Int}(h:(r.length:Int)=w):B8 w n r=(seek (badQ n r) r.length 0).isSome:=by
 unfold B8;rw[decide_eq_true h];rfl
theorem KH{n:Int}{r:List Int}{i:Nat}:badQ n r i=true↔¬(0<=r.getD i 0/\r.getD i 0<n):=by
 unfold badQ;simp only[Cx,Bool.and_eq_false_iff,decide_eq_false_iff_not];omega
theorem xK{n:Int}{r:List Int}{i:Nat}:badQ n r i=false↔(0<=r.getD i 0/\r.getD i 0<n):=by
 unfold badQ;simp only[Bool.not_eq_false',Ar,decide_eq_true_eq]
theorem aHY{R:Type}{L nn:Nat}(hn:1<=nn){n:Int}{r:List Int}(hl:r.length<=4294967296){k:KE R}:∀(j:Nat) (i:Int) (m:Nat) (h0:0<=i) (hi:i+j=r.length) (hm:j<m),
  aM env (aA env L nn) L 0 [] Bz30 (x3 0) (Z1 (U1 (Z1 (U2 (U1 (Z2 (U16 (U4 (U2 (U1 ([]))))))))))) m (.d (.ivs r.length (ints r))::Y1 (nI n::Y2 (Y1 (.d (.bool false)::nI i::Y16 (Y4 (Y2 (Y1 ([])))))))) [] k
  =match seek (badQ n r) j i.toNat with
   |none=>k (.exit 0) (.d (.ivs r.length (ints r))::Y1 (nI n::Y2 (Y1 (.d (.bool false)::nI (r.length)::Y16 (Y4 (Y2 (Y1 ([])))))))) []
   |some q=>k .ret (.d (.ivs r.length (ints r))::Y1 (nI n::Y2 (Y1 (.d (.bool false)::nI q::Y16 (Y4 (Y2 (Y1 ([])))))))) []:=by
 intro j
 induction j with
 |zero=>
  intro i m h0 hi hm;obtain _|m:=m;omega;obtain rfl:i=r.length:=by omega
  simp -implicitDefEqProofs (maxSteps:=2000000) (disch:=try exact Dz) only[↓DN,↓kRet,UP,simprocAttr,Aj,tE,uU,Tryz.f71];rfl
 |succ j ih=>
  intro i m h0 hi hm;obtain _|m:=m;omega;have hc:i<r.length:=by omega
  have hk:i.toNat<r.length:=by omega
  have e1:(i+1).toNat=i.toNat+1:=by omega
  have e3:((i.toNat:Nat):Int)=i:=by omega
  by_cases h1:r.getD i.toNat 0<0
  ·have hb:badQ n r i.toNat=true:=by rw[KH];omega
   rw[kH hb];simp -implicitDefEqProofs (maxSteps:=2000000) (disch:=try exact Dz) only[↓DN,↓kAsg,↓kRet,UP,simprocAttr,hc,h1,e3,tE,uU,Tryz.f71]
  ·by_cases h2:n<=r.getD i.toNat 0
   ·have hb:badQ n r i.toNat=true:=by rw[KH];omega
    rw[kH hb];simp -implicitDefEqProofs (maxSteps:=2000000) (disch:=try exact Dz) only[↓DN,↓kAsg,↓kRet,UP,simprocAttr,hc,h1,h2,e3,tE,uU,Tryz.f71]
   ·have hb:badQ n r i.toNat=false:=by rw[xK];omega
    rw[mQ hb];simp -implicitDefEqProofs (maxSteps:=2000000) (disch:=try exact Dz) only[↓DN,↓kRet,UP,simprocAttr,hc,h1,h2,↓ih,e1,tE,uU,Tryz.f71]
theorem aA3(hn:2<=n)(r:List Int)(w q:Int)(hl:r.length<=4294967296)(hL:2^60<=L):aA env L n 71 [.d (.ivs r.length (ints r)),nI w,nI q] []=some (.d (.bool (!B8 w q r)),[]):=by
 unfold B8
 by_cases h1:(r.length:Int)=w
 ·have loop_a:=fun {R:Type} {n:Nat} (hn:1<=n) {k:KE R}=>aHY (R:=R) (L:=L) (nn:=n) hn (n:=q) hl (k:=k) r.length 0 L (by omega) (by omega) (by omega);simp only[Dd]at loop_a
  cases hs:seek (badQ q r) r.length 0 with
  |none=>
   rw[hs]at loop_a;obtain _|n:=n;omega;simp -implicitDefEqProofs (maxSteps:=2000000) (disch:=try exact Dz) only[↓DN,↓kAsg,↓kRet,UP,simprocAttr,h1,↓loop_a,OG,I9,Tryz.f71]
  |some z=>
   rw[hs]at loop_a;obtain _|n:=n;omega;simp -implicitDefEqProofs (maxSteps:=2000000) (disch:=try exact Dz) only[↓DN,↓kAsg,↓kRet,UP,simprocAttr,h1,↓loop_a,OG,I9,Tryz.f71]
 ·obtain _|n:=n;omega;simp -implicitDefEqProofs (maxSteps:=2000000) (disch:=try exact Dz) only[↓DN,↓kAsg,↓kRet,UP,simprocAttr,h1,OG,I9,Tryz.f71]
theorem aBl:type_of% fun {L} r w q hl hL=>ks fun hn=> @aA3 L _ hn r w q hl hL:=fun {L} r w q hl hL=>ks fun hn=> @aA3 L _ hn r w q hl hL
theorem NZ(hL:2^60<=L)(hn:3<=n){al:Int}{rs:List (List Int)}{ac:List Bool}(hs:bF rs){k:KE R}:∀(j:Nat) (i:Int) (m:Nat) (h0:0<=i) (hi:i+j=rs.length) (hm:j<m),
  aM env (aA env L n) L 0 [] Bz51 (jL 0) (U1 (Z4 (U32 (U4 (U2 (U1 ([]))))))) m (Y1 (.ptr 0 0 0::.d (.bool false)::nI (rs.length)::nI i::Y32 (Y4 (Y2 (Y1 ([])))))) [.box [nI al,.d (.ivs rs.length (aN rs)),.d (.ivs ac.length (aJ ac))]] k
  =match seek (gK (aB al).length rs.length rs) j i.toNat with
   |none=>k (.exit 0) (Y1 (.ptr 0 0 0::.d (.bool false)::nI (rs.length)::nI (rs.length)::Y32 (Y4 (Y2 (Y1 ([])))))) [.box [nI al,.d (.ivs rs.length (aN rs)),.d (.ivs ac.length (aJ ac))]]
   |some q=>k .ret (Y1 (.ptr 0 0 0::.d (.bool false)::nI (rs.length)::nI q::Y32 (Y4 (Y2 (Y1 ([])))))) [.box [nI al,.d (.ivs rs.length (aN rs)),.d (.ivs ac.length (aJ ac))]]:=by
 intro j;have hrl:=hs.1;have hll:=b9 al
 induction j with
 |zero=>
  intro i m h0 hi hm;obtain _|m:=m;omega;obtain rfl:i=rs.length:=by omega
  simp -implicitDefEqProofs (maxSteps:=2000000) (disch:=try exact Dz) only[↓DN,↓kRet,UP,simprocAttr,Aj,lU,kR,Tryz.f35];rfl
 |succ j ih=>
  intro i m h0 hi hm;obtain _|m:=m;omega;have hc:i<rs.length:=by omega
  have hk:i.toNat<rs.length:=by omega
  have hrow:=oX hs hk;have e1:(i+1).toNat=i.toNat+1:=by omega
  have e3:((i.toNat:Nat):Int)=i:=by omega
  cases hb:gK (aB al).length rs.length rs i.toNat with
  |true=>
   rw[kH hb];unfold gK at hb;simp -implicitDefEqProofs (maxSteps:=2000000) (disch:=try exact Dz) only[↓DN,↓kAsg,↓kRet,UP,simprocAttr,↓gP,↓aBl,LA,hc,hb,e3,lU,kR,Tryz.f35]
  |false=>
   rw[mQ hb];unfold gK at hb;simp -implicitDefEqProofs (maxSteps:=2000000) (disch:=try exact Dz) only[↓DN,↓kRet,UP,simprocAttr,↓gP,↓aBl,LA,hc,hb,↓ih,e1,lU,kR,Tryz.f35]
theorem zW(hn:4<=n)(al:Int)(rs:List (List Int))(ac:List Bool)(hs:bF rs)(ha:ac.length<=4294967296)(hL:2^60<=L):aA env L n 35 [.agg [nI al,.d (.ivs rs.length (aN rs)),.d (.ivs ac.length (aJ ac))]] []=some (.d (.bool (dP al rs ac)),[]):=by
 have hrl:=hs.1;have loop_a:=fun {R:Type} {n:Nat} (hn:3<=n) {k:KE R}=>NZ (R:=R) (L:=L) hL hn (al:=al) (ac:=ac) hs (k:=k) rs.length 0 L (by omega) (by omega) (by omega);simp only[Dd]at loop_a;unfold dP
 cases hq:kD al with
 |false=>
  obtain _|n:=n;omega;simp -implicitDefEqProofs (maxSteps:=2000000) (disch:=try exact Dz) only[↓DN,↓kAsg,↓kRet,UP,simprocAttr,↓kC,hq,f5,fD,Tryz.f35]
 |true=>
  by_cases h1:(1:Int)<=rs.length
  ·have n1:¬(rs.length:Int)<1:=by omega
   by_cases h2:(rs.length:Int)<=12
   ·have n2:¬(12:Int)<rs.length:=by omega
    by_cases h3:(ac.length:Int)=rs.length
    ·cases hk:seek (gK (aB al).length rs.length rs) rs.length 0 with
     |none=>
      rw[hk]at loop_a;obtain _|n:=n;omega;simp -implicitDefEqProofs (maxSteps:=2000000) (disch:=try exact Dz) only[↓DN,↓kAsg,↓kRet,UP,simprocAttr,↓kC,hq,h1,n1,h2,n2,h3,↓loop_a,f5,fD,Tryz.f35]
     |some z=>
      rw[hk]at loop_a;obtain _|n:=n;omega;simp -implicitDefEqProofs (maxSteps:=2000000) (disch:=try exact Dz) only[↓DN,↓kAsg,↓kRet,UP,simprocAttr,↓kC,hq,h1,n1,h2,n2,h3,↓loop_a,f5,fD,Tryz.f35]
    ·obtain _|n:=n;omega;simp -implicitDefEqProofs (maxSteps:=2000000) (disch:=try exact Dz) only[↓DN,↓kAsg,↓kRet,UP,simprocAttr,↓kC,hq,h1,n1,h2,n2,h3,f5,fD,Tryz.f35]
   ·have n2:(12:Int)<rs.length:=by omega
    obtain _|n:=n;omega;simp -implicitDefEqProofs (maxSteps:=2000000) (disch:=try exact Dz) only[↓DN,↓kAsg,↓kRet,UP,simprocAttr,↓kC,hq,h1,n1,h2,n2,f5,fD,Tryz.f35]
  ·have n1:(rs.length:Int)<1:=by omega
   obtain _|n:=n;omega;simp -implicitDefEqProofs (maxSteps:=2000000) (disch:=try exact Dz) only[↓DN,↓kAsg,↓kRet,UP,simprocAttr,↓kC,hq,h1,n1,f5,fD,Tryz.f35]
theorem bR:type_of% fun {L} al rs ac hs ha hL=>ks fun hn=> @zW L _ hn al rs ac hs ha hL:=fun {L} al rs ac hs ha hL=>ks fun hn=> @zW L _ hn al rs ac hs ha hL
theorem IX(hL:2^60<=L)(hn:3<=n){al q w:Int}{rs:List (List Int)}{ac:List Bool}(hs:bF rs){r:List Int}(hr:r.length<=4294967296){k:KE R}:∀(j:Nat) (i:Int) (m:Nat) (h0:0<=i) (hi:i+j=r.length) (hm:j<m),
  aM env (aA env L n) L 0 [] Bz8 (dJ 1) (U1 (Z2 (Z1 (U32 (U2 (Z2 (Z1 (U4 (U2 (U1 (Z2 (Z1 (U8 (U4 (U2 ([])))))))))))))))) m (Y1 (.ptr 0 0 0::.d (.bool false)::nI w::Y32 (Y2 (.d (.ivs rs.length (aN rs))::nI (rs.length)::nI q::Y4 (Y2 (Y1 (.d (.ivs r.length (ints r))::nI (r.length)::nI i::Y8 (Y4 (Y2 ([])))))))))) [.box [nI al,.d (.ivs rs.length (aN rs)),.d (.ivs ac.length (aJ ac))]] k
  =match seek (badQ rs.length r) j i.toNat with
   |none=>k (.exit 2) (Y1 (.ptr 0 0 0::.d (.bool false)::nI w::Y32 (Y2 (.d (.ivs rs.length (aN rs))::nI (rs.length)::nI q::Y4 (Y2 (Y1 (.d (.ivs r.length (ints r))::nI (r.length)::nI (r.length)::Y8 (Y4 (Y2 ([])))))))))) [.box [nI al,.d (.ivs rs.length (aN rs)),.d (.ivs ac.length (aJ ac))]]
   |some z=>k .ret (Y1 (.ptr 0 0 0::.d (.bool false)::nI w::Y32 (Y2 (.d (.ivs rs.length (aN rs))::nI (rs.length)::nI q::Y4 (Y2 (Y1 (.d (.ivs r.length (ints r))::nI (r.length)::nI z::Y8 (Y4 (Y2 ([])))))))))) [.box [nI al,.d (.ivs rs.length (aN rs)),.d (.ivs ac.length (aJ ac))]]:=by
 intro j;have hrl:=hs.1
 induction j with
 |zero=>
  intro i m h0 hi hm;obtain _|m:=m;omega;obtain rfl:i=r.length:=by omega
  simp -implicitDefEqProofs (maxSteps:=2000000) (disch:=try exact Dz) only[↓DN,↓kRet,UP,simprocAttr,Aj,jJ,iQ,Tryz.f30];rfl
 |succ j ih=>
  intro i m h0 hi hm;obtain _|m:=m;omega;have hc:i<r.length:=by omega
  have hk:i.toNat<r.length:=by omega
  have e1:(i+1).toNat=i.toNat+1:=by omega
  have e3:((i.toNat:Nat):Int)=i:=by omega
  by_cases h1:r.getD i.toNat 0<0
  ·have hb:badQ rs.length r i.toNat=true:=by rw[KH];omega
   rw[kH hb];simp -implicitDefEqProofs (maxSteps:=2000000) (disch:=try exact Dz) only[↓DN,↓kAsg,↓kRet,UP,simprocAttr,hc,h1,e3,jJ,iQ,Tryz.f30]
  ·by_cases h2:(rs.length:Int)<=r.getD i.toNat 0
   ·have hb:badQ rs.length r i.toNat=true:=by rw[KH];omega
    rw[kH hb];simp -implicitDefEqProofs (maxSteps:=2000000) (disch:=try exact Dz) only[↓DN,↓kAsg,↓kRet,UP,simprocAttr,hc,h1,h2,e3,jJ,iQ,Tryz.f30]
   ·have hb:badQ rs.length r i.toNat=false:=by rw[xK];omega
    rw[mQ hb];simp -implicitDefEqProofs (maxSteps:=2000000) (disch:=try exact Dz) only[↓DN,↓kRet,UP,simprocAttr,hc,h1,h2,↓ih,e1,jJ,iQ,Tryz.f30]
theorem IY(hL:2^60<=L)(hn:3<=n){al:Int}{rs:List (List Int)}{ac:List Bool}(hs:bF rs){k:KE R}:∀(j:Nat) (i:Int) (m:Nat) (h0:0<=i) (hi:i+j=rs.length) (hm:j<m),
  aM env (aA env L n) L 0 [] Bz8 (dJ 0) (U1 (Z2 (Z1 (U32 (U2 (Z2 (Z1 (U16 (U8 ([])))))))))) m (Y1 (.ptr 0 0 0::.d (.bool false)::nI ((aB al).length)::Y32 (Y2 (.d (.ivs rs.length (aN rs))::nI (rs.length)::nI i::Y16 (Y8 ([])))))) [.box [nI al,.d (.ivs rs.length (aN rs)),.d (.ivs ac.length (aJ ac))]] k
  =match seek (gK (aB al).length rs.length rs) j i.toNat with
   |none=>k (.exit 0) (Y1 (.ptr 0 0 0::.d (.bool false)::nI ((aB al).length)::Y32 (Y2 (.d (.ivs rs.length (aN rs))::nI (rs.length)::nI (rs.length)::Y16 (Y8 ([])))))) [.box [nI al,.d (.ivs rs.length (aN rs)),.d (.ivs ac.length (aJ ac))]]
   |some q=>k .ret (Y1 (.ptr 0 0 0::.d (.bool false)::nI ((aB al).length)::Y32 (Y2 (.d (.ivs rs.length (aN rs))::nI (rs.length)::nI q::Y16 (Y8 ([])))))) [.box [nI al,.d (.ivs rs.length (aN rs)),.d (.ivs ac.length (aJ ac))]]:=by
 intro j;have hrl:=hs.1;have hll:=b9 al
 induction j with
 |zero=>
  intro i m h0 hi hm;obtain _|m:=m;omega;obtain rfl:i=rs.length:=by omega
  simp -implicitDefEqProofs (maxSteps:=2000000) (disch:=try exact Dz) only[↓DN,↓kRet,UP,simprocAttr,Aj,jI,iA,Tryz.f30];rfl
 |succ j ih=>
  intro i m h0 hi hm;obtain _|m:=m;omega;have hc:i<rs.length:=by omega
  have hk:i.toNat<rs.length:=by omega
  have hrow:=oX hs hk;have e1:(i+1).toNat=i.toNat+1:=by omega
  have e3:((i.toNat:Nat):Int)=i:=by omega
  have loop_a:=fun {R:Type} {k:KE R}=>IX (R:=R) (n:=n) (L:=L) hL hn (al:=al) (q:=i) (w:=(aB al).length) (ac:=ac) hs hrow (k:=k) (rs.getD i.toNat []).length 0 L (by omega) (by omega) (by omega);simp only[Dd]at loop_a
  cases hb:gK (aB al).length rs.length rs i.toNat with
  |true=>
   rw[kH hb];unfold gK at hb
   by_cases hw:((rs.getD i.toNat []).length:Int)=(aB al).length
   ·have hwd:decide (((rs.getD i.toNat []).length:Int)=(aB al).length)=true:=decide_eq_true hw
    cases hz:seek (badQ rs.length (rs.getD i.toNat [])) (rs.getD i.toNat []).length 0 with
    |none=>rw[O8 hw,hz]at hb;cases hb
    |some z=>
     rw[hz]at loop_a;clear ih hb;simp -implicitDefEqProofs (maxSteps:=2000000) (disch:=try exact Dz) only[↓DN,↓kRet,UP,simprocAttr,LA,hc,hwd,↓loop_a,e3,jI,iA,Tryz.f30]
   ·clear ih hb loop_a;simp -implicitDefEqProofs (maxSteps:=2000000) (disch:=try exact Dz) only[↓DN,↓kAsg,↓kRet,UP,simprocAttr,LA,hc,hw,e3,jI,iA,Tryz.f30]
  |false=>
   rw[mQ hb];unfold gK at hb
   by_cases hw:((rs.getD i.toNat []).length:Int)=(aB al).length
   ·have hwd:decide (((rs.getD i.toNat []).length:Int)=(aB al).length)=true:=decide_eq_true hw
    cases hz:seek (badQ rs.length (rs.getD i.toNat [])) (rs.getD i.toNat []).length 0 with
    |none=>
     rw[hz]at loop_a;clear hb;simp -implicitDefEqProofs (maxSteps:=2000000) (disch:=try exact Dz) only[↓DN,↓kRet,UP,simprocAttr,LA,hc,hwd,↓loop_a,↓ih,e1,jI,iA,Tryz.f30]
    |some z=>rw[O8 hw,hz]at hb;cases hb
   ·rw[aHE hw]at hb;cases hb
theorem z7(hn:4<=n)(al:Int)(rs:List (List Int))(ac:List Bool)(hs:bF rs)(ha:ac.length<=4294967296)(hL:2^60<=L):aA env L n 30 [.agg [nI al,.d (.ivs rs.length (aN rs)),.d (.ivs ac.length (aJ ac))]] []=some (.d (.bool (dP al rs ac)),[]):=by
 have hrl:=hs.1;have hll:=b9 al;have loop_a:=fun {R:Type} {n:Nat} (hn:3<=n) {k:KE R}=>IY (R:=R) (L:=L) hL hn (al:=al) (ac:=ac) hs (k:=k) rs.length 0 L (by omega) (by omega) (by omega);simp only[Dd]at loop_a;unfold dP
 cases hq:kD al with
 |false=>
  obtain _|n:=n;omega;simp -implicitDefEqProofs (maxSteps:=2000000) (disch:=try exact Dz) only[↓DN,↓kAsg,↓kRet,UP,simprocAttr,↓eI,hq,fX,fE,Tryz.f30]
 |true=>
  by_cases h1:(1:Int)<=rs.length
  ·have n1:¬(rs.length:Int)<1:=by omega
   by_cases h2:(rs.length:Int)<=12
   ·have n2:¬(12:Int)<rs.length:=by omega
    by_cases h3:(ac.length:Int)=rs.length
    ·cases hk:seek (gK (aB al).length rs.length rs) rs.length 0 with
     |none=>
      rw[hk]at loop_a;obtain _|n:=n;omega;simp -implicitDefEqProofs (maxSteps:=2000000) (disch:=try exact Dz) only[↓DN,↓kAsg,↓kRet,UP,simprocAttr,↓eI,↓lF,hq,h1,n1,h2,n2,h3,↓loop_a,fX,fE,Tryz.f30]
     |some z=>
      rw[hk]at loop_a;obtain _|n:=n;omega;simp -implicitDefEqProofs (maxSteps:=2000000) (disch:=try exact Dz) only[↓DN,↓kAsg,↓kRet,UP,simprocAttr,↓eI,↓lF,hq,h1,n1,h2,n2,h3,↓loop_a,fX,fE,Tryz.f30]
    ·obtain _|n:=n;omega;simp -implicitDefEqProofs (maxSteps:=2000000) (disch:=try exact Dz) only[↓DN,↓kAsg,↓kRet,UP,simprocAttr,↓eI,hq,h1,n1,h2,n2,h3,fX,fE,Tryz.f30]
   ·have n2:(12:Int)<rs.length:=by omega
    obtain _|n:=n;omega;simp -implicitDefEqProofs (maxSteps:=2000000) (disch:=try exact Dz) only[↓DN,↓kAsg,↓kRet,UP,simprocAttr,↓eI,hq,h1,n1,h2,n2,fX,fE,Tryz.f30]
  ·have n1:(rs.length:Int)<1:=by omega
   obtain _|n:=n;omega;simp -implicitDefEqProofs (maxSteps:=2000000) (disch:=try exact Dz) only[↓DN,↓kAsg,↓kRet,UP,simprocAttr,↓eI,hq,h1,n1,fX,fE,Tryz.f30]
theorem bT:type_of% fun {L} al rs ac hs ha hL=>ks fun hn=> @z7 L _ hn al rs ac hs ha hL:=fun {L} al rs ac hs ha hL=>ks fun hn=> @z7 L _ hn al rs ac hs ha hL
end
section
variable{R:Type}{L n:Nat}
def iJ(a l:Int):Nat:=((aB a).filter fun m=>decide (m<l)).length
def goI(al:Int)(rs:List (List Int))(q l:Int):Int:=if eL al l=true then(rs.getD q.toNat []).getD (iJ al l) 0 else q
theorem six{l:Int}(h0:0<=l)(h1:l<6):l=0\/l=1\/l=2\/l=3\/l=4\/l=5:=by omega
theorem CU{a l:Int}(h0:0<=l)(h1:l<6)(hb:eL a l=true):iJ a l<(aB a).length/\(aB a)[iJ a l]? =some l:=by
 unfold iJ aB;generalize eL a=p at *
 rcases six h0 h1 with rfl|rfl|rfl|rfl|rfl|rfl<;>
  cases h0':p 0<;>cases h1':p 1<;>cases h2':p 2<;>cases h3':p 3<;>cases h4':p 4<;>cases h5':p 5<;>simp_all [List.filter]
theorem gZ{a l:Int}:l∈aB a↔(0<=l/\l<6)/\eL a l=true:=by
 unfold aB;rw[List.mem_filter]
 constructor
 ·rintro⟨h1,h2⟩;simp at h1;exact⟨by omega,h2⟩
 ·rintro⟨h1,h2⟩;refine⟨?_,h2⟩
  rcases six h1.1 h1.2 with rfl|rfl|rfl|rfl|rfl|rfl<;>simp
theorem Q9(a:Int):(aB a).Nodup:=by
 unfold aB;exact List.Nodup.sublist List.filter_sublist (by decide)
def u4(q:Nat):Nat->Nat->List Int->List Int
 |0,_,t=>t
 |j+1,i,t=>u4 q j (i+1) (t.set (q*6+i) q)
def sR(q:Nat)(row:List Int):List Int->Nat->List Int->List Int
 | [],_,t=>t
 |l::ls,i,t=>sR q row ls (i+1) (t.set (q*6+l.toNat) (row.getD i 0))
def sN(ls:List Int):List (List Int)->Nat->List Int->List Int
 | [],_,t=>t
 |r::rs,q,t=>sN ls rs (q+1) (sR q r ls 0 (u4 q 6 0 t))
def xP(al:Int)(rs:List (List Int)):List Int:=sN (aB al) rs 0 (List.replicate (rs.length*6) 0)
theorem wK:∀(j q i:Nat) (t:List Int),(u4 q j i t).length=t.length
 |0,_,_,_=>rfl
 |j+1,q,i,t=>by simp[u4,wK j]
theorem K4:∀(ls:List Int) (q i:Nat) (row t:List Int),(sR q row ls i t).length=t.length
 | [],_,_,_,_=>rfl
 |l::ls,q,i,row,t=>by simp[sR,K4 ls]
theorem JE:∀(rs:List (List Int)) (ls:List Int) (q:Nat) (t:List Int),(sN ls rs q t).length=t.length
 | [],_,_,_=>rfl
 |r::rs,ls,q,t=>by simp[sN,JE rs,K4,wK]
theorem lY(al:Int)(rs:List (List Int)):(xP al rs).length=rs.length*6:=by simp[xP,JE]
theorem aAQ{t:List Int}{k p:Nat}{v:Int}:(t.set k v).getD p 0=if p=k/\k<t.length then v else t.getD p 0:=by
 simp only[Aa,Ch]
 by_cases h:k=p
 ·subst h
  by_cases h2:k<t.length
  ·simp[h2]
  ·simp[h2]
 ·have h':¬p=k:=fun e=>h e.symm;simp[h,h']
theorem SH:∀(j q i:Nat) (t:List Int) (p:Nat),q*6+i+j<=t.length->(u4 q j i t).getD p 0=if q*6+i<=p/\p<q*6+i+j then(q:Int)else t.getD p 0
 |0,q,i,t,p,h=>by
  simp only[u4];rw[if_neg (by omega)]
 |j+1,q,i,t,p,h=>by
  simp only[u4];rw[SH j q (i+1) _ p (by simp;omega),aAQ]
  by_cases h1:q*6+(i+1)<=p/\p<q*6+(i+1)+j
  ·rw[if_pos h1,if_pos (by omega)]
  ·rw[if_neg h1]
   by_cases h2:p=q*6+i
   ·rw[if_pos ⟨h2,by omega⟩,if_pos (by omega)]
   ·rw[if_neg (by omega),if_neg (by omega)]
theorem uX:∀(ls:List Int) (q i:Nat) (row t:List Int) (p:Nat),(∀l∈ls,p≠q*6+l.toNat)->(sR q row ls i t).getD p 0=t.getD p 0
 | [],_,_,_,_,_,_=>rfl
 |l::ls,q,i,row,t,p,h=>by
  simp only[sR];rw[uX ls q (i+1) row _ p fun m hm=>h m (by simp[hm]),aAQ,if_neg];intro hc;exact h l (by simp) hc.1
theorem VN:∀(ls:List Int) (q i:Nat) (row t:List Int) (k:Nat) (l:Int),ls[k]? =some l->ls.Nodup->(∀m∈ls,0<=m)->q*6+l.toNat<t.length->(sR q row ls i t).getD (q*6+l.toNat) 0=row.getD (i+k) 0
 |l'::ls,q,i,row,t,0,l,h,hn,hp,hl=>by
  simp only[Ce,Option.some.injEq]at h;subst h;simp only[sR];rw[uX,aAQ,if_pos ⟨rfl,hl⟩,Bp];intro m hm hc
  have h1:m=l':=by
   have h2:=hp m (by simp[hm]);have h3:=hp l' (by simp);omega
  subst h1;exact(List.nodup_cons.1 hn).1 hm
 |l'::ls,q,i,row,t,k+1,l,h,hn,hp,hl=>by
  simp only[sR];rw[VN ls q (i+1) row _ k l (by simpa using h) (List.nodup_cons.1 hn).2 (fun m hm=>hp m (by simp[hm])) (by simpa using hl)]
  congr 1
  omega
theorem aJD{a:Int}:∀m∈aB a,0<=m:=fun m hm=>(gZ.1 hm).1.1
theorem aFU{a:Int}:∀(rs:List (List Int)) (q0:Nat) (t:List Int) (q l:Nat),l<6->(q0+rs.length)*6<=t.length->
  (sN (aB a) rs q0 t).getD (q*6+l) 0=if q0<=q/\q<q0+rs.length then(if eL a l=true then(rs.getD (q-q0) []).getD (iJ a l) 0 else(q:Int))else t.getD (q*6+l) 0
 | [],q0,t,q,l,hl,ht=>by
  simp only[sN];rw[if_neg (by simp only[Ac];omega)]
 |r::rs,q0,t,q,l,hl,ht=>by
  simp only[Ad]at ht|-;simp only[sN];rw[aFU rs (q0+1) _ q l hl (by rw[K4,wK];omega)]
  by_cases h1:q0+1<=q/\q<q0+1+rs.length
  ·rw[if_pos h1,if_pos (show q0<=q/\q<q0+(rs.length+1) by omega)];obtain⟨d,hd⟩:∃d,q-q0=d+1:=⟨q-q0-1,by omega⟩
   rw[hd,Ed,show q-(q0+1)=d by omega]
  ·rw[if_neg h1]
   by_cases h2:q=q0
   ·subst h2;rw[if_pos (show q<=q/\q<q+(rs.length+1) by omega),Br,List.getD_cons_zero]
    by_cases hb:eL a l=true
    ·rw[if_pos hb];have hp:=CU (a:=a) (l:=l) (by omega) (by omega) hb;have hg:=VN (aB a) q 0 r (u4 q 6 0 t) (iJ a l) l hp.2 (Q9 a) aJD (by rw[wK];simp;omega);rw[Cw]at hg;rw[hg,Ag]
    ·rw[if_neg hb,uX,SH _ _ _ _ _ (by omega),if_pos (by omega)];intro m hm hc;have hm2:=gZ.1 hm;have:m=l:=by omega
     subst this;exact hb hm2.2
   ·rw[if_neg (show ¬(q0<=q/\q<q0+(rs.length+1)) by omega),uX,SH _ _ _ _ _ (by omega),if_neg (by omega)];intro m hm hc;have hm2:=gZ.1 hm;omega
theorem aLW{al:Int}{rs:List (List Int)}{q l:Int}(h0:0<=q)(h1:q<rs.length)(h2:0<=l)(h3:l<6):(xP al rs).getD (q.toNat*6+l.toNat) 0=goI al rs q l:=by
 unfold xP goI;rw[aFU rs 0 _ q.toNat l.toNat (by omega) (by simp)];rw[if_pos (by omega),Nat.sub_zero,show((l.toNat:Nat):Int)=l by omega,show((q.toNat:Nat):Int)=q by omega]
theorem aDZ{al:Int}{rs:List (List Int)}{q l:Int}(h0:0<=q)(h1:q<rs.length)(h2:0<=l)(h3:l<6):((((ints (xP al rs)).drop (q.toNat*6)).drop l.toNat).map A.d).head? =some (nI (goI al rs q l)):=by
 rw[Cj,U0 (by rw[lY];omega),aLW h0 h1 h2 h3]
theorem c_a6:env.P.cellsOf 97=6:=kr
theorem aFC:∀n:Nat,(List.replicate n [D.int .i64 0,.int .i64 0,.int .i64 0,.int .i64 0,.int .i64 0,.int .i64 0]).flatten=ints (List.replicate (n*6) 0)
 |0=>rfl
 |n+1=>by
  rw[List.replicate_succ,List.flatten_cons,aFC n,Nat.succ_mul];simp[ints,List.replicate_succ]
theorem aUs{n:Int}{h:H}(h0:0<=n)(h1:n<=4294967296):iG env.P h 95 n n=some (.sl h.length 0 0 n.toNat,h++[.arr (ints (List.replicate (n.toNat*6) 0)) 6 0]):=by
 have hm:n<=(bK:Nat):=by unfold bK;omega
 have he:cY env.P 95=some 97:=kr;have hz:dX env.P 97=some (.agg [nI 0,nI 0,nI 0,nI 0,nI 0,nI 0]):=kr;have hok:eW env.P 97=true:=kr;simp only[iG,he,hz,aX,y5,Ax,hok,h0,hm,c_a6,Int.le_refl,and_self,if_true,aFC]
theorem aAO(hn:1<=n){al q:Int}{rs:List (List Int)}(hs:bF rs){r:List Int}(hq0:0<=q)(hq1:q<rs.length){k:KE R}:∀(j:Nat) (i:Int) (m:Nat) (t:List Int) (len:Nat) (h0:0<=i) (hi:i+j=6) (hm:j<m) (ht:t.length=rs.length*6) (hlen:len=rs.length),
  aM env (aA env L n) L 0 [] Bz4 (eB 1) (U2 (Z4 (Z1 (U8 (U2 (U1 (Z2 (Z1 (U4 (Z1 (U16 (U8 (U4 ([])))))))))))))) m (Y2 (.d .nils::.sl 0 0 0 len::.d (.ivs (aB al).length (ints (aB al)))::nI q::.d (.ivs r.length (ints r))::Y8 (Y2 (Y1 (.d (.ivs rs.length (aN rs))::nI (rs.length)::nI q::Y4 (nI i::Y16 (Y8 (Y4 ([]))))))))) [.arr (ints t) 6 0] k
  =k (.exit 2) (Y2 (.d .nils::.sl 0 0 0 rs.length::.d (.ivs (aB al).length (ints (aB al)))::nI q::.d (.ivs r.length (ints r))::Y8 (Y2 (Y1 (.d (.ivs rs.length (aN rs))::nI (rs.length)::nI q::Y4 (nI 6::Y16 (Y8 (Y4 ([]))))))))) [.arr (ints (u4 q.toNat j i.toNat t)) 6 0]:=by
 intro j;have hrl:=hs.1
 induction j with
 |zero=>
  intro i m t len h0 hi hm ht hlen;obtain _|m:=m;omega;obtain rfl:i=6:=by omega
  simp -implicitDefEqProofs (maxSteps:=2000000) (disch:=try exact Dz) only[↓DN,↓kRet,UP,simprocAttr,Aj,hlen,GC,EF,Tryz.f92];rfl
 |succ j ih=>
  intro i m t len h0 hi hm ht hlen;obtain _|m:=m;omega;subst hlen;have hc:i<6:=by omega
  have hk:q.toNat*6+i.toNat<t.length:=by omega
  have e1:(i+1).toNat=i.toNat+1:=by omega
  have e2:((q.toNat:Nat):Int)=q:=by omega
  simp -implicitDefEqProofs (maxSteps:=2000000) (disch:=try exact Dz) only[↓DN,↓kRet,UP,simprocAttr,hc,hq1,↓WR,↓ih,GC,EF,Tryz.f92];rw[e1];simp only[u4,e2]
theorem aHA{a:Int}{i:Nat}(h:i<(aB a).length):(aB a).drop i=(aB a).getD i 0::(aB a).drop (i+1):=cI h
theorem aAf(hn:1<=n){al q:Int}{rs:List (List Int)}(hs:bF rs){r:List Int}(hr:r.length<=4294967296)(hrl2:(aB al).length<=r.length)(hq0:0<=q)(hq1:q<rs.length){k:KE R}:∀(j:Nat) (i:Int) (m:Nat) (t:List Int) (len:Nat) (h0:0<=i) (hi:i+j=(aB al).length) (hm:j<m) (ht:t.length=rs.length*6) (hlen:len=rs.length),
  aM env (aA env L n) L 0 [] Bz4 (eB 2) (U2 (Z4 (Z1 (U8 (U2 (U1 (Z2 (Z1 (U4 (Z1 (U8 (U1 (Z2 (Z1 (U16 ([])))))))))))))))) m (Y2 (.d .nils::.sl 0 0 0 len::.d (.ivs (aB al).length (ints (aB al)))::nI q::.d (.ivs r.length (ints r))::Y8 (Y2 (Y1 (.d (.ivs rs.length (aN rs))::nI (rs.length)::nI q::Y4 (nI 6::Y8 (Y1 (.d (.ivs (aB al).length (ints (aB al)))::nI ((aB al).length)::nI i::Y16 ([]))))))))) [.arr (ints t) 6 0] k
  =k (.exit 4) (Y2 (.d .nils::.sl 0 0 0 rs.length::.d (.ivs (aB al).length (ints (aB al)))::nI q::.d (.ivs r.length (ints r))::Y8 (Y2 (Y1 (.d (.ivs rs.length (aN rs))::nI (rs.length)::nI q::Y4 (nI 6::Y8 (Y1 (.d (.ivs (aB al).length (ints (aB al)))::nI ((aB al).length)::nI ((aB al).length)::Y16 ([]))))))))) [.arr (ints (sR q.toNat r ((aB al).drop i.toNat) i.toNat t)) 6 0]:=by
 intro j;have hrl:=hs.1;have hll:=b9 al
 induction j with
 |zero=>
  intro i m t len h0 hi hm ht hlen;obtain _|m:=m;omega;obtain rfl:i=(aB al).length:=by omega
  simp -implicitDefEqProofs (maxSteps:=2000000) (disch:=try exact Dz) only[↓DN,↓kRet,UP,simprocAttr,Aj,hlen,GV,D4,Tryz.f92];simp only[Ca,sR]
 |succ j ih=>
  intro i m t len h0 hi hm ht hlen;obtain _|m:=m;omega;subst hlen;have hc:i<(aB al).length:=by omega
  have hk1:i.toNat<(aB al).length:=by omega
  have hk2:i.toNat<r.length:=by omega
  have hv:=aQ6 cQ hk1;have hv6:(aB al).getD i.toNat 0<6:=by omega
  have hv0:=hv.1;have hk:q.toNat*6+((aB al).getD i.toNat 0).toNat<t.length:=by omega
  have e1:(i+1).toNat=i.toNat+1:=by omega
  simp -implicitDefEqProofs (maxSteps:=2000000) (disch:=try exact Dz) only[↓DN,↓kRet,UP,simprocAttr,hc,hq1,↓WR,↓ih,GV,D4,Tryz.f92];rw[aHA hk1,e1];simp only[sR]
def vP(w:Nat)(rs:List (List Int)):Prop:=∀r∈rs,r.length=w
theorem aEe{w:Nat}{rs:List (List Int)}(h:vP w rs){k:Nat}(hk:k<rs.length):(rs.getD k []).length=w:=by
 rw[Aa,Ae hk];exact h _ (Az hk)
theorem ZO(hL:2^60<=L)(hn:1<=n){al:Int}{rs:List (List Int)}(hs:bF rs)(hw:vP (aB al).length rs){k:KE R}:∀(j:Nat) (i:Int) (m:Nat) (t:List Int) (len:Nat) (h0:0<=i) (hi:i+j=rs.length) (hm:j<m) (ht:t.length=rs.length*6) (hlen:len=rs.length),
  aM env (aA env L n) L 0 [] Bz4 (eB 0) (U2 (Z2 (Z1 (U8 (U4 (U1 (Z2 (Z1 (U32 (U1 ([]))))))))))) m (Y2 (.d .nils::.sl 0 0 0 len::.d (.ivs (aB al).length (ints (aB al)))::Y8 (Y4 (Y1 (.d (.ivs rs.length (aN rs))::nI (rs.length)::nI i::Y32 (Y1 ([]))))))) [.arr (ints t) 6 0] k
  =k (.exit 0) (Y2 (.d .nils::.sl 0 0 0 rs.length::.d (.ivs (aB al).length (ints (aB al)))::Y8 (Y4 (Y1 (.d (.ivs rs.length (aN rs))::nI (rs.length)::nI (rs.length)::Y32 (Y1 ([]))))))) [.arr (ints (sN (aB al) (rs.drop i.toNat) i.toNat t)) 6 0]:=by
 intro j;have hrl:=hs.1;have hll:=b9 al
 induction j with
 |zero=>
  intro i m t len h0 hi hm ht hlen;obtain _|m:=m;omega;obtain rfl:i=rs.length:=by omega
  simp -implicitDefEqProofs (maxSteps:=2000000) (disch:=try exact Dz) only[↓DN,↓kRet,UP,simprocAttr,Aj,hlen,H0,EC,Tryz.f92];simp only[Ca,sN]
 |succ j ih=>
  intro i m t len h0 hi hm ht hlen;obtain _|m:=m;omega;subst hlen;have hc:i<rs.length:=by omega
  have hk:i.toNat<rs.length:=by omega
  have hrow:=oX hs hk;have hrw:=aEe hw hk;have e1:(i+1).toNat=i.toNat+1:=by omega
  have loop_a1:=fun {R:Type} {k:KE R}=>aAO (R:=R) (L:=L) (n:=n) hn (al:=al) (q:=i) (r:=rs.getD i.toNat []) hs h0 hc (k:=k) 6 0 L t rs.length (by omega) (by omega) (by omega) ht rfl;have loop_a2:=fun {R:Type} {k:KE R}=>aAf (R:=R) (L:=L) (n:=n) hn (al:=al) (q:=i) hs (r:=rs.getD i.toNat []) hrow (by omega) h0 hc (k:=k) (aB al).length 0 L (u4 i.toNat 6 0 t) rs.length (by omega) (by omega) (by omega) (by rw[wK];exact ht) rfl;simp only[Dd,Bc]at loop_a1 loop_a2;have ht2:(sR i.toNat (rs.getD i.toNat []) (aB al) 0 (u4 i.toNat 6 0 t)).length=rs.length*6:=by rw[K4,wK];exact ht
  clear hrw;simp -implicitDefEqProofs (maxSteps:=2000000) (disch:=try exact Dz) only[↓DN,↓kRet,UP,simprocAttr,LA,hc,↓loop_a1,↓loop_a2,↓ih,H0,EC,Tryz.f92];rw[cI hk (d:=[]),e1];simp only[sN]
theorem R0(hn:3<=n)(al:Int)(rs:List (List Int))(z:Nat)(cs:List D)(hs:bF rs)(hw:vP (aB al).length rs)(hL:2^60<=L):aA env L n 92 [.agg [nI al,.d (.ivs rs.length (aN rs)),.d (.ivs z cs)]] []=some (.d (.ivs rs.length (ints (xP al rs))),[]):=by
 have hrl:=hs.1;have loop_a:=fun {R:Type} {n:Nat} (hn:1<=n) {k:KE R}=>ZO (R:=R) (L:=L) (n:=n) hL hn (al:=al) hs hw (k:=k) rs.length 0 L (List.replicate (rs.length*6) 0) rs.length (by omega) (by omega) (by omega) (by simp) rfl;simp only[Dd,Bc]at loop_a;have htl:(xP al rs).length=rs.length*6:=lY al rs;have htl2:rs.length*6<=(sN (aB al) rs 0 (List.replicate (rs.length*6) 0)).length:=by rw[JE];simp
 have htk:(ints (sN (aB al) rs 0 (List.replicate (rs.length*6) 0))).take (rs.length*6)=ints (sN (aB al) rs 0 (List.replicate (rs.length*6) 0)):=eS (by rw[JE];simp);unfold xP;obtain _|n:=n;omega;simp -implicitDefEqProofs (maxSteps:=2000000) (disch:=try exact Dz) only[↓DN,↓kAsg,↓kRet,UP,simprocAttr,↓lF,↓aUs,↓loop_a,htk,htl2,aIg,XS,Tryz.f92]
theorem SL:type_of% fun {L} al rs z cs hs hw hL=>ks fun hn=> @R0 L _ hn al rs z cs hs hw hL:=fun {L} al rs z cs hs hw hL=>ks fun hn=> @R0 L _ hn al rs z cs hs hw hL
end
section
variable{R:Type}{L n:Nat}
def cntB(a:Int):Nat->Int->Nat
 |0,_=>0
 |j+1,i=>(if eL a i=true then 1 else 0)+cntB a j (i+1)
theorem aLs{a l:Int}(h0:0<=l)(h1:l<6):cntB a l.toNat 0=iJ a l:=by
 unfold iJ aB;generalize hp:eL a=p;have e:∀i,eL a i=p i:=fun i=>by rw[hp]
 rcases six h0 h1 with rfl|rfl|rfl|rfl|rfl|rfl<;>
  simp only[cntB,e,show(0:Int).toNat=0 from rfl,show(1:Int).toNat=1 from rfl,show(2:Int).toNat=2 from rfl,show(3:Int).toNat=3 from rfl,show(4:Int).toNat=4 from rfl,show(5:Int).toNat=5 from rfl,Int.zero_add,Int.reduceAdd]<;>
  cases h0':p 0<;>cases h1':p 1<;>cases h2':p 2<;>cases h3':p 3<;>cases h4':p 4<;>cases h5':p 5<;>simp_all [List.filter]
theorem aDr(hn:1<=n){a l:Int}(hl:l<6){k:KE R}:∀(j:Nat) (i c:Int) (m:Nat) (h0:0<=i) (hi:i+j=l) (hm:j<m) (hc0:0<=c) (hc1:c<=i),
  aM env (aA env L n) L 0 [] Bz49 (rO 0) (Z2 (U2 (Z2 (Z1 (U8 (U2 (U1 ([])))))))) m (nI a::nI l::Y2 (nI 0::nI c::nI i::Y8 (Y2 (Y1 ([]))))) [] k
  =k (.exit 0) (nI a::nI l::Y2 (nI 0::nI (c+cntB a j i)::nI l::Y8 (Y2 (Y1 ([]))))) []:=by
 intro j
 induction j with
 |zero=>
  intro i c m h0 hi hm hc0 hc1;obtain _|m:=m;omega;obtain rfl:i=l:=by omega
  simp -implicitDefEqProofs (maxSteps:=2000000) (disch:=try exact Dz) only[↓DN,↓kRet,UP,simprocAttr,Aj,vM,uZ,Tryz.f156];simp only[cntB,Aq,Int.add_zero]
 |succ j ih=>
  intro i c m h0 hi hm hc0 hc1;obtain _|m:=m;omega;have hc:i<l:=by omega
  cases hb:eL a i with
  |true=>
   have e:c+1+(cntB a j (i+1):Int)=c+cntB a (j+1) i:=by simp only[cntB,hb,if_true];omega
   simp -implicitDefEqProofs (maxSteps:=2000000) (disch:=try exact Dz) only[↓DN,↓kRet,UP,simprocAttr,↓tG,hc,hb,↓ih,vM,uZ,Tryz.f156];rw[e]
  |false=>
   have e:c+(cntB a j (i+1):Int)=c+cntB a (j+1) i:=by simp only[cntB,hb,Ak,if_false];omega
   simp -implicitDefEqProofs (maxSteps:=2000000) (disch:=try exact Dz) only[↓DN,↓kRet,UP,simprocAttr,↓tG,hc,hb,↓ih,vM,uZ,Tryz.f156];rw[e]
theorem TQ(hn:2<=n)(a l:Int)(h0:0<=l)(h1:l<6)(hL:2^60<=L):aA env L n 156 [nI a,nI l] []=some (nI (iJ a l),[]):=by
 have loop_a:=fun {R:Type} {n:Nat} (hn:1<=n) {k:KE R}=>aDr (R:=R) (L:=L) hn (a:=a) h1 (k:=k) l.toNat 0 0 L (by omega) (by omega) (by omega) (by omega) (by omega);rw[aLs h0 h1]at loop_a;obtain _|n:=n;omega;simp -implicitDefEqProofs (maxSteps:=2000000) (disch:=try exact Dz) only[↓DN,↓kAsg,UP,simprocAttr,↓loop_a,Int.zero_add,aIl,YB,Tryz.f156]
theorem aHx:type_of% fun {L} a l h0 h1 hL=>ks fun hn=> @TQ L _ hn a l h0 h1 hL:=fun {L} a l h0 h1 hL=>ks fun hn=> @TQ L _ hn a l h0 h1 hL
theorem aTY{al q l:Int}{rs:List (List Int)}(h:eL al l=false):goI al rs q l=q:=by
 unfold goI;rw[h];rfl
theorem WL{al q l:Int}{rs:List (List Int)}(h:eL al l=true):goI al rs q l=(rs.getD q.toNat []).getD (iJ al l) 0:=by
 unfold goI;rw[if_pos h]
theorem aFX(hn:3<=n)(al q l:Int)(rs:List (List Int))(z:Nat)(cs:List D)(hs:bF rs)(hw:vP (aB al).length rs)(hq0:0<=q)(hq1:q<rs.length)(h0:0<=l)(h1:l<6)(hL:2^60<=L):aA env L n 147 [.agg [nI al,.d (.ivs rs.length (aN rs)),.d (.ivs z cs)],nI q,nI l] []=some (nI (goI al rs q l),[]):=by
 have hrl:=hs.1;have hk:q.toNat<rs.length:=by omega
 have hrow:=oX hs hk;have hrw:=aEe hw hk
 cases hb:eL al l with
 |false=>
  rw[aTY hb];clear hrw;obtain _|n:=n;omega;simp -implicitDefEqProofs (maxSteps:=2000000) (disch:=try exact Dz) only[↓DN,↓kAsg,↓kRet,UP,simprocAttr,↓tG,hb,aEl,aAD,Tryz.f147]
 |true=>
  rw[WL hb];have hp:=(CU h0 h1 hb).1;have hp2:iJ al l<(rs.getD q.toNat []).length:=by omega
  have hp3:(iJ al l:Int)<(rs.getD q.toNat []).length:=by omega
  have hp4:((iJ al l:Nat):Int).toNat=iJ al l:=Cw _;clear hrw hp;obtain _|n:=n;omega;simp -implicitDefEqProofs (maxSteps:=2000000) (disch:=try exact Dz) only[↓DN,↓kAsg,↓kRet,UP,simprocAttr,↓tG,↓aHx,LA,hb,hp4,aEl,aAD,Tryz.f147]
theorem aNm:type_of% fun {L} al q l rs z cs hs hw hq0 hq1 h0 h1 hL=>ks fun hn=> @aFX L _ hn al q l rs z cs hs hw hq0 hq1 h0 h1 hL:=fun {L} al q l rs z cs hs hw hq0 hq1 h0 h1 hL=>ks fun hn=> @aFX L _ hn al q l rs z cs hs hw hq0 hq1 h0 h1 hL
theorem TU{l:List (List Int)}{r:List Int}{z:Nat}(h:z=r.length):aN l++[.ivs z (ints r)]=aN (l++[r]):=by
 subst h;simp[aN,rowD]
theorem aFM:aN []=[]:=rfl
theorem aP0:aJ []=[]:=rfl
end
section
def LD(mvs:List (List Int))(dist:List Int)(d:Int):Bool:=mvs.any fun r=>r.any fun m=>decide (dist.getD m.toNat 0=d)
def dZ(tab:List (List (List Int)))(d:Int):Nat->Nat->List Int×Bool->List Int×Bool
 |0,_,q=>q
 |j+1,i,q=>if q.1.getD i 0<0/\LD (tab.getD i []) q.1 (d-1)=true then dZ tab d j (i+1) (q.1.set i d,true)else dZ tab d j (i+1) q
def dS(tab:List (List (List Int))):Nat->Int->List Int->List Int
 |0,_,dist=>dist
 |j+1,d,dist=>if(dZ tab d dist.length 0 (dist,false)).2=true then dS tab j (d+1) (dZ tab d dist.length 0 (dist,false)).1 else(dZ tab d dist.length 0 (dist,false)).1
def addC(dist:List Int)(d:Int):List Int->List Int->List Int
 | [],out=>out
 |m::ms,out=>if dist.getD m.toNat 0=d/\m∉out then addC dist d ms (out++[m])else addC dist d ms out
def bJ(tab:List (List (List Int)))(dist:List Int)(k:Nat)(d:Int):List Int->List Int->List Int
 | [],out=>out
 |v::vs,out=>bJ tab dist k d vs (addC dist d ((tab.getD v.toNat []).getD k []) out)
def PM(tab:List (List (List Int)))(dist:List Int)(at_:List Int)(d:Int):Nat->Nat->Nat×List Int
 |0,k=>(k,[])
 |j+1,k=>if bJ tab dist k d at_ []=[]then PM tab dist at_ d j (k+1)else(k,bJ tab dist k d at_ [])
def nJ(tab:List (List (List Int)))(dist:List Int)(ls:List Int):Nat->List Int->List Int
 |0,_=>[]
 |d+1,at_=>ls.getD (PM tab dist at_ d (ls.length+1) 0).1 0::nJ tab dist ls d (PM tab dist at_ d (ls.length+1) 0).2
def aBv(tab:List (List (List Int)))(ls:List Int)(dist:List Int)(s:Int):List Int×Bool:=
 if dist.getD s.toNat 0<0 then([],false)else(nJ tab dist ls (dist.getD s.toNat 0).toNat [s],true)
section
variable{nx:Int->Int->List Int}{gl:Int->Bool}{ls:List Int}{aO:Nat}{tab:List (List (List Int))}
def Away(nx:Int->Int->List Int)(ls:List Int)(gl:Int->Bool)(v:Int)(d:Nat):Prop:=∃w g,w.length=d/\Path nx ls v w g/\gl g=true
def Far(nx:Int->Int->List Int)(ls:List Int)(gl:Int->Bool)(v:Int)(d:Nat):Prop:=Away nx ls gl v d/\∀e,e<d->¬Away nx ls gl v e
theorem VO{v:Int}:Away nx ls gl v 0↔gl v=true:=by
 constructor
 ·rintro⟨w,g,h1,h2,h3⟩;have:w=[]:=By.1 h1;subst this;rw[show v=g from h2];exact h3
 ·intro h;exact⟨[],v,rfl,rfl,h⟩
theorem LF{v:Int}{d:Nat}:Away nx ls gl v (d+1)↔∃l∈ls,∃m∈nx v l,Away nx ls gl m d:=by
 constructor
 ·rintro⟨w,g,h1,h2,h3⟩
  cases w with
  |nil=>simp at h1
  |cons l w=>
   obtain⟨hl,m,hm,hp⟩:=h2;exact⟨l,hl,m,hm,w,g,by simpa using h1,hp,h3⟩
 ·rintro⟨l,hl,m,hm,w,g,h1,h2,h3⟩;exact⟨l::w,g,by simp[h1],⟨hl,m,hm,h2⟩,h3⟩
theorem FK{v:Int}{d e:Nat}(h:Far nx ls gl v d)(k:Far nx ls gl v e):d=e:=by
 rcases Dc d e with h1|h1|h1
 ·exact(k.2 d h1 h.1).elim
 ·exact h1
 ·exact(h.2 e h1 k.1).elim
theorem aRE{v:Int}:∀ {d:Nat},Away nx ls gl v d->∃e,e<=d/\Far nx ls gl v e:=by
 intro d
 induction d using Nat.strongRecOn with
 |_ d ih=>
  intro h
  by_cases hd:∃e,e<d/\Away nx ls gl v e
  ·obtain⟨e,h1,h2⟩:=hd;obtain⟨f,h3,h4⟩:=ih e h1 h2;exact⟨f,by omega,h4⟩
  ·exact⟨d,Ab _,h,fun e he ha=>hd ⟨e,he,ha⟩⟩
theorem N8{v:Int}{d:Nat}(h:Far nx ls gl v (d+1)):∃l∈ls,∃m∈nx v l,Far nx ls gl m d:=by
 obtain⟨l,hl,m,hm,ha⟩:=LF.1 h.1;refine⟨l,hl,m,hm,ha,fun e he h2=> ?_⟩;exact h.2 (e+1) (by omega) (LF.2 ⟨l,hl,m,hm,h2⟩)
structure Tab(nx:Int->Int->List Int)(ls:List Int)(aO:Nat)(tab:List (List (List Int))):Prop where
 len:tab.length=aO
 row:∀v:Nat,v<aO->tab.getD v []=ls.map (nx v)
 rng:∀v c:Int,0<=v->v<aO->c∈ls->∀m∈nx v c,0<=m/\m<aO
def aAV(nx:Int->Int->List Int)(ls:List Int)(gl:Int->Bool)(aO:Nat)(dist:List Int)(d:Nat):Prop:=
 dist.length=aO/\∀i:Nat,i<aO->(∃k:Nat,k<=d/\dist.getD i 0=k/\Far nx ls gl i k)\/(dist.getD i 0= -1/\∀e,e<=d->¬Away nx ls gl i e)
theorem R3{dist:List Int}{d:Nat}(h:aAV nx ls gl aO dist d){v:Int}{k:Nat}(h0:0<=v)(h1:v<aO)(hk:k<=d):dist.getD v.toNat 0=k↔Far nx ls gl v k:=by
 have hv:((v.toNat:Nat):Int)=v:=by omega
 rcases h.2 v.toNat (by omega)with⟨e,h2,h3,h4⟩|⟨h3,h4⟩
 ·rw[hv]at h4
  constructor
  ·intro h5;have:e=k:=by omega
   rw[<-this];exact h4
  ·intro h5;rw[h3,FK h4 h5]
 ·rw[hv]at h4
  constructor
  ·intro h5;omega
  ·intro h5;exact(h4 k hk h5.1).elim
theorem aQO(ht:Tab nx ls aO tab){dist old:List Int}{d:Nat}(hk:aAV nx ls gl aO old d){v:Nat}(hv:v<aO)(hs:∀i:Nat,i<aO->(dist.getD i 0=d↔old.getD i 0=d)):
  LD (tab.getD v []) dist d=true↔∃l∈ls,∃m∈nx v l,Far nx ls gl m d:=by
 unfold LD;rw[ht.row v hv];simp only[List.any_map,List.any_eq_true,Function.comp,decide_eq_true_eq]
 constructor
 ·rintro⟨l,hl,m,hm,h⟩;have hr:=ht.rng v l (by omega) (by omega) hl m hm;rw[hs m.toNat (by omega)]at h;exact⟨l,hl,m,hm,(R3 hk hr.1 hr.2 (Ab _)).1 h⟩
 ·rintro⟨l,hl,m,hm,h⟩;have hr:=ht.rng v l (by omega) (by omega) hl m hm;refine⟨l,hl,m,hm,?_⟩;rw[hs m.toNat (by omega)];exact(R3 hk hr.1 hr.2 (Ab _)).2 h
theorem aF6{α:Type}{l:List α}{i j:Nat}{x d:α}(h:i<l.length):(l.set i x).getD j d=if i=j then x else l.getD j d:=by
 rw[Aa,Ch,Aa]
 by_cases hij:i=j
 ·subst hij;simp[h]
 ·simp[hij]
open Classical in
theorem aUy(ht:Tab nx ls aO tab){old:List Int}{d:Nat}(hk:aAV nx ls gl aO old d):∀(j i:Nat) (q:List Int×Bool),i+j=aO->q.1.length=aO->(∀x:Nat,x<aO->q.1.getD x 0=if x<i/\Far nx ls gl x (d+1)then((d+1:Nat):Int)else old.getD x 0)->(q.2=true↔∃x:Nat,x<i/\Far nx ls gl x (d+1))->
  (dZ tab ((d+1:Nat):Int) j i q).1.length=aO/\(∀x:Nat,x<aO->(dZ tab ((d+1:Nat):Int) j i q).1.getD x 0=if Far nx ls gl x (d+1)then((d+1:Nat):Int)else old.getD x 0)/\((dZ tab ((d+1:Nat):Int) j i q).2=true↔∃x:Nat,x<aO/\Far nx ls gl x (d+1)):=by
 intro j
 induction j with
 |zero=>
  intro i q hi hl hq hb;obtain rfl:i=aO:=by omega
  refine⟨hl,fun x hx=> ?_,hb⟩;have:=hq x hx;simp only[hx,true_and]at this;exact this
 |succ j ih=>
  intro i q hi hl hq hb;have hit:i<aO:=by omega
  have e1:((d+1:Nat):Int)-1=(d:Int):=by omega
  have hqi:q.1.getD i 0=old.getD i 0:=by
   rw[hq i hit,if_neg (by omega)]
  have hnear:=aQO ht hk hit (dist:=q.1) fun x hx=>by
   rw[hq x hx]
   split
   ·rename_i h
    constructor
    ·intro h2;omega
    ·intro h2;have:=(R3 hk (v:=(x:Int)) (by omega) (by omega) (Ab d)).1 (by simpa using h2);have:=FK h.2 this;omega
   ·exact Iff.rfl
  have hfar:(q.1.getD i 0<0/\LD (tab.getD i []) q.1 (((d+1:Nat):Int)-1)=true)↔Far nx ls gl i (d+1):=by
   rw[e1,hnear,hqi]
   constructor
   ·rintro⟨h1,l,hl,m,hm,h2⟩
    rcases hk.2 i hit with⟨k,_,h3,_⟩|⟨_,h4⟩
    ·omega
    ·exact⟨LF.2 ⟨l,hl,m,hm,h2.1⟩,fun e he=>h4 e (by omega)⟩
   ·intro h;refine⟨?_,N8 h⟩
    rcases hk.2 i hit with⟨k,h2,h3,h4⟩|⟨h3,_⟩
    ·have:=FK h h4;omega
    ·omega
  unfold dZ
  by_cases hc:Far nx ls gl i (d+1)
  ·rw[if_pos (hfar.2 hc)];refine ih (i+1) _ (by omega) (by simpa using hl) (fun x hx=> ?_) ?_
   ·simp only;rw[aF6 (by omega)]
    by_cases hix:i=x
    ·subst hix;rw[if_pos rfl,if_pos ⟨by omega,hc⟩]
    ·rw[if_neg hix,hq x hx]
     by_cases hxi:x<i
     ·simp only[hxi,show x<i+1 by omega,true_and]
     ·simp only[hxi,show ¬x<i+1 by omega,false_and,if_false]
   ·simp only[true_iff];exact⟨i,by omega,hc⟩
  ·rw[if_neg (fun h=>hc (hfar.1 h))];refine ih (i+1) q (by omega) hl (fun x hx=> ?_) ?_
   ·rw[hq x hx]
    by_cases hix:i=x
    ·subst hix;simp only[hc,and_false,if_false]
    ·by_cases hxi:x<i
     ·simp only[hxi,show x<i+1 by omega,true_and]
     ·simp only[hxi,show ¬x<i+1 by omega,false_and,if_false]
   ·rw[hb]
    constructor
    ·rintro⟨x,h1,h2⟩;exact⟨x,by omega,h2⟩
    ·rintro⟨x,h1,h2⟩
     by_cases hix:x=i
     ·subst hix;exact(hc h2).elim
     ·exact⟨x,by omega,h2⟩
def Full(nx:Int->Int->List Int)(ls:List Int)(gl:Int->Bool)(aO:Nat)(dist:List Int):Prop:=
 dist.length=aO/\∀i:Nat,i<aO->(∃k:Nat,dist.getD i 0=k/\Far nx ls gl i k)\/(dist.getD i 0= -1/\∀e,¬Away nx ls gl i e)
theorem QD:∀ {l:List Int} {i:Nat} {x:Int},l.getD i 0<0->i<l.length->0<=x->(l.set i x).countP (·<0)+1=l.countP (·<0)
 | [],i,x,h,hi,hx=>by simp at hi
 |a::l,0,x,h,hi,hx=>by
  simp at h;simp only[Cf,Du];simp[h,show ¬x<0 by omega]
 |a::l,i+1,x,h,hi,hx=>by
  have ih:=QD (l:=l) (i:=i) (x:=x) (by simpa using h) (by simpa using hi) hx;simp only[Bn,Du];omega
theorem WB{d:Int}(hd:0<=d):∀(j i:Nat) (q:List Int×Bool),i+j=q.1.length->(dZ tab d j i q).1.countP (·<0)<=q.1.countP (·<0)/\((dZ tab d j i q).2=true->q.2=true\/(dZ tab d j i q).1.countP (·<0)<q.1.countP (·<0))
 |0,i,q,h=>⟨Ab _,fun h=>.inl h⟩
 |j+1,i,q,h=>by
  unfold dZ
  split
  ·rename_i hc
   have h1:=QD (l:=q.1) (i:=i) (x:=d) hc.1 (by omega) hd;obtain⟨h2,h3⟩:=WB hd j (i+1) (q.1.set i d,true) (by simp;omega);simp only at h2;exact⟨by omega,fun _=>.inr (by omega)⟩
  ·exact WB hd j (i+1) q (by omega)
open Classical in
theorem aPR(ht:Tab nx ls aO tab):∀(j d:Nat) (dist:List Int),aAV nx ls gl aO dist d->dist.countP (·<0)<j->Full nx ls gl aO (dS tab j ((d+1:Nat):Int) dist)
 |0,d,dist,hk,hj=>by omega
 |j+1,d,dist,hk,hj=>by
  have h0:∀x:Nat,x<aO->dist.getD x 0=if x<0/\Far nx ls gl x (d+1)then((d+1:Nat):Int)else dist.getD x 0:=fun x hx=>by
   rw[if_neg (by omega)]
  obtain⟨h1,h2,h3⟩:=aUy ht hk aO 0 (dist,false) (by omega) hk.1 h0 (by simp);have hc:=WB (tab:=tab) (d:=((d+1:Nat):Int)) (by omega) dist.length 0 (dist,false) (by simp);unfold dS;rw[<-hk.1]at h1 h2 h3;generalize dZ tab ((d+1:Nat):Int) dist.length 0 (dist,false)=r at *;rw[hk.1]at h1 h2 h3
  split
  ·rename_i hb
   have hlt:=hc.2 hb;simp only[Ak,false_or]at hlt;refine aPR ht j (d+1) r.1 ⟨h1,fun i hi=> ?_⟩ (by omega);rw[h2 i hi]
   split
   ·rename_i hf
    exact .inl ⟨d+1,Ab _,rfl,hf⟩
   ·rename_i hf
    rcases hk.2 i hi with⟨k,g1,g2,g3⟩|⟨g1,g2⟩
    ·exact .inl ⟨k,by omega,g2,g3⟩
    ·refine .inr ⟨g1,fun e he ha=> ?_⟩
     by_cases hed:e=d+1
     ·subst hed;exact hf ⟨ha,fun e' he'=>g2 e' (by omega)⟩
     ·exact g2 e (by omega) ha
  ·rename_i hb
   have hno:∀i:Nat,i<aO->¬Far nx ls gl i (d+1):=fun i hi hf=>hb (h3.2 ⟨i,hi,hf⟩)
   have hnone:∀e:Nat,∀i:Nat,i<aO->d<e->¬Far nx ls gl i e:=by
    intro e
    induction e with
    |zero=>intro i hi he;omega
    |succ e ih=>
     intro i hi he hf
     by_cases hed:e=d
     ·subst hed;exact hno i hi hf
     ·obtain⟨l,hl,m,hm,hfm⟩:=N8 hf;have hr:=ht.rng i l (by omega) (by omega) hl m hm;refine ih m.toNat (by omega) (by omega) ?_;rw[show((m.toNat:Nat):Int)=m by omega];exact hfm
   refine⟨h1,fun i hi=> ?_⟩;rw[h2 i hi,if_neg (hno i hi)]
   rcases hk.2 i hi with⟨k,g1,g2,g3⟩|⟨g1,g2⟩
   ·exact .inl ⟨k,g2,g3⟩
   ·refine .inr ⟨g1,fun e ha=> ?_⟩;obtain⟨f,h4,h5⟩:=aRE ha
    by_cases hfd:f<=d
    ·exact g2 f hfd h5.1
    ·exact hnone f i hi (by omega) h5
theorem Z3{dist:List Int}{d:Int}:∀(ms out:List Int) (x:Int),x∈addC dist d ms out↔x∈out\/(x∈ms/\dist.getD x.toNat 0=d)
 | [],out,x=>by simp[addC]
 |m::ms,out,x=>by
  unfold addC
  split
  ·rename_i h
   rw[Z3 ms,Al,Bk,Au]
   constructor
   ·rintro((k|rfl)|k)
    ·exact .inl k
    ·exact .inr ⟨.inl rfl,h.1⟩
    ·exact .inr ⟨.inr k.1,k.2⟩
   ·rintro(k|⟨rfl|k,k2⟩)
    ·exact .inl (.inl k)
    ·exact .inl (.inr rfl)
    ·exact .inr ⟨k,k2⟩
  ·rename_i h
   rw[Z3 ms,Au]
   constructor
   ·rintro(k|k)
    ·exact .inl k
    ·exact .inr ⟨.inr k.1,k.2⟩
   ·rintro(k|⟨rfl|k,k2⟩)
    ·exact .inl k
    ·by_cases hx:x∈out
     ·exact .inl hx
     ·exact(h ⟨k2,hx⟩).elim
    ·exact .inr ⟨k,k2⟩
theorem PP{dist:List Int}{k:Nat}{d:Int}:∀(vs out:List Int) (x:Int),x∈bJ tab dist k d vs out↔x∈out\/(∃v∈vs,x∈(tab.getD v.toNat []).getD k []/\dist.getD x.toNat 0=d)
 | [],out,x=>by simp[bJ]
 |v::vs,out,x=>by
  unfold bJ;rw[PP vs,Z3]
  constructor
  ·rintro((h|h)|⟨u,h1,h2⟩)
   ·exact .inl h
   ·exact .inr ⟨v,Bi,h⟩
   ·exact .inr ⟨u,Be _ h1,h2⟩
  ·rintro(h|⟨u,h1,h2⟩)
   ·exact .inl (.inl h)
   ·rcases Au.1 h1 with rfl|h1
    ·exact .inl (.inr h2)
    ·exact .inr ⟨u,h1,h2⟩
theorem aD2{dist at_:List Int}{d:Int}:∀(j k:Nat),(∃e,k<=e/\e<k+j/\bJ tab dist e d at_ []≠[])->∃e,k<=e/\e<k+j/\PM tab dist at_ d j k=(e,bJ tab dist e d at_ [])/\bJ tab dist e d at_ []≠[]/\∀f,k<=f->f<e->bJ tab dist f d at_ []=[]
 |0,k,⟨e,h1,h2,_⟩=>by omega
 |j+1,k,⟨e,h1,h2,h3⟩=>by
  unfold PM
  split
  ·rename_i hc
   have hek:e≠k:=fun h=>h3 (h▸hc);obtain⟨f,g1,g2,g3,g4,g5⟩:=aD2 j (k+1) ⟨e,by omega,by omega,h3⟩;refine⟨f,by omega,by omega,g3,g4,fun x hx1 hx2=> ?_⟩
   by_cases hxk:x=k
   ·subst hxk;exact hc
   ·exact g5 x (by omega) hx2
  ·rename_i hc
   exact⟨k,Ab _,by omega,rfl,hc,fun f h h'=>by omega⟩
theorem GG{dist:List Int}(h:Full nx ls gl aO dist){v:Int}{k:Nat}(h0:0<=v)(h1:v<aO):dist.getD v.toNat 0=k↔Far nx ls gl v k:=by
 have hv:((v.toNat:Nat):Int)=v:=by omega
 rcases h.2 v.toNat (by omega)with⟨e,h3,h4⟩|⟨h3,h4⟩
 ·rw[hv]at h4
  constructor
  ·intro h5;have:e=k:=by omega
   rw[<-this];exact h4
  ·intro h5;rw[h3,FK h4 h5]
 ·rw[hv]at h4
  constructor
  ·intro h5;omega
  ·intro h5;exact(h4 k h5.1).elim
theorem WE(ht:Tab nx ls aO tab){v:Int}{k:Nat}(h0:0<=v)(h1:v<aO)(hk:k<ls.length):(tab.getD v.toNat []).getD k []=nx v (ls.getD k 0):=by
 rw[ht.row v.toNat (by omega),show((v.toNat:Nat):Int)=v by omega,Aa,Bd,Ae hk,Aa,Ae hk];rfl
theorem aDQ:∀ {l:List Int} {i j:Nat},l.Pairwise (·<·)->i<j->j<l.length->l.getD i 0<l.getD j 0
 | [],i,j,_,_,h=>by simp at h
 |a::l,0,j+1,h,_,hj=>by
  have hj':j<l.length:=by simpa using hj
  have:=(List.pairwise_cons.1 h).1 (l.getD j 0) (by rw[Aa,Ae hj'];exact Az hj')
  simpa using this
 |a::l,i+1,j+1,h,hij,hj=>by
  have:=aDQ (List.pairwise_cons.1 h).2 (i:=i) (j:=j) (by omega) (by simpa using hj)
  simpa using this
theorem aNp(ht:Tab nx ls aO tab){dist:List Int}(hf:Full nx ls gl aO dist)(ha:ls.Pairwise (·<·)):∀(d:Nat) (at_:List Int),(∀v∈at_,(0<=v/\v<aO)/\Far nx ls gl v d)->at_≠[]->
  (nJ tab dist ls d at_).length=d/\(∃v∈at_,∃g,Path nx ls v (nJ tab dist ls d at_) g/\gl g=true)/\∀w v g,v∈at_->w.length=d->Path nx ls v w g->gl g=true->¬qV w (nJ tab dist ls d at_):=by
 intro d
 induction d with
 |zero=>
  intro at_ hat hne;refine⟨rfl,?_,fun w v g _ hw _ _ h=> ?_⟩
  ·cases at_ with
   |nil=>exact(hne rfl).elim
   |cons v vs=>
    have:=(hat v Bi).2;exact⟨v,Bi,v,rfl,VO.1 this.1⟩
  ·have:w=[]:=By.1 hw;subst this;exact h
 |succ d ih=>
  intro at_ hat hne
  have hmem:∀k x,k<ls.length->(x∈bJ tab dist k d at_ []↔∃v∈at_,x∈nx v (ls.getD k 0)/\Far nx ls gl x d):=by
   intro k x hk;rw[PP];simp only[Bo,false_or]
   constructor
   ·rintro⟨v,hv,h1,h2⟩;have hr:=(hat v hv).1;rw[WE ht hr.1 hr.2 hk]at h1;have hl:ls.getD k 0∈ls:=by rw[Aa,Ae hk];exact Az hk
    have hx:=ht.rng v _ hr.1 hr.2 hl x h1;exact⟨v,hv,h1,(GG hf hx.1 hx.2).1 h2⟩
   ·rintro⟨v,hv,h1,h2⟩;have hr:=(hat v hv).1;have hl:ls.getD k 0∈ls:=by rw[Aa,Ae hk];exact Az hk
    have hx:=ht.rng v _ hr.1 hr.2 hl x h1;exact⟨v,hv,by rw[WE ht hr.1 hr.2 hk];exact h1,(GG hf hx.1 hx.2).2 h2⟩
  have hidx:∀l∈ls,∃k,k<ls.length/\ls.getD k 0=l:=by
   intro l hl;obtain⟨k,hk,h⟩:=Cl hl;exact⟨k,hk,by rw[Aa,Ae hk,h];rfl⟩
  obtain⟨v0,hv0⟩:∃v,v∈at_:=by
   cases at_ with
   |nil=>exact(hne rfl).elim
   |cons v vs=>exact⟨v,Bi⟩
  obtain⟨l0,hl0,m0,hm0,hfm0⟩:=N8 (hat v0 hv0).2;obtain⟨k0,hk0,e0⟩:=hidx l0 hl0
  have hne0:bJ tab dist k0 d at_ []≠[]:=by
   intro h;have:=(hmem k0 m0 hk0).2 ⟨v0,hv0,by rw[e0];exact hm0,hfm0⟩;rw[h]at this;cases this
  obtain⟨e,_,h2,h3,h4,h5⟩:=aD2 (tab:=tab) (dist:=dist) (at_:=at_) (d:=d) (ls.length+1) 0 ⟨k0,by omega,by omega,hne0⟩
  have hel:e<ls.length:=by
   apply Nat.lt_of_not_le;intro h
   by_cases he0:k0<e
   ·exact hne0 (h5 k0 (by omega) he0)
   ·omega
  have hel2:ls.getD e 0∈ls:=by rw[Aa,Ae hel];exact Az hel
  unfold nJ;rw[h3];simp only
  have hat2:∀x∈bJ tab dist e d at_ [],(0<=x/\x<aO)/\Far nx ls gl x d:=by
   intro x hx;obtain⟨v,hv,g1,g2⟩:=(hmem e x hel).1 hx;have hr:=(hat v hv).1;exact⟨ht.rng v _ hr.1 hr.2 hel2 x g1,g2⟩
  obtain⟨i1,⟨m,hm,g,i2,i3⟩,i4⟩:=ih _ hat2 h4;refine⟨by simp[i1],?_,?_⟩
  ·obtain⟨v,hv,g1,g2⟩:=(hmem e m hel).1 hm;exact⟨v,hv,g,⟨hel2,m,g1,i2⟩,i3⟩
  ·intro w v g' hv hw hp hg hlt
   cases w with
   |nil=>simp at hw
   |cons l w=>
    obtain⟨hl,m',hm',hp'⟩:=hp
    have hfm:Far nx ls gl m' d:=by
     refine⟨⟨w,g',by simpa using hw,hp',hg⟩,fun x hx hax=> ?_⟩;exact(hat v hv).2.2 (x+1) (by omega) (LF.2 ⟨l,hl,m',hm',hax⟩)
    obtain⟨k,hk,ek⟩:=hidx l hl;have hmc:m'∈bJ tab dist k d at_ []:=(hmem k m' hk).2 ⟨v,hv,by rw[ek];exact hm',hfm⟩
    have hke:e<=k:=by
     apply Nat.le_of_not_lt;intro h;rw[h5 k (by omega) h]at hmc;cases hmc
    rcases hlt with h|⟨h,h'⟩
    ·by_cases hek:e=k
     ·subst hek;omega
     ·have:=aDQ ha (i:=e) (j:=k) (by omega) hk;omega
    ·have:e=k:=by
      apply Nat.le_antisymm hke;apply Nat.le_of_not_lt;intro hc;have:=aDQ ha (i:=e) (j:=k) hc hk;omega
     subst this;exact i4 w m' g' hmc (by simpa using hw) hp' hg h'
theorem aQp(ht:Tab nx ls aO tab){dist:List Int}(hf:Full nx ls gl aO dist)(ha:ls.Pairwise (·<·)){s:Int}(h0:0<=s)(h1:s<aO):FJ (Hits nx ls [s] gl) (aBv tab ls dist s):=by
 have hv:((s.toNat:Nat):Int)=s:=by omega
 unfold aBv
 rcases hf.2 s.toNat (by omega)with⟨k,h2,h3⟩|⟨h2,h3⟩
 ·rw[hv]at h3;rw[h2,if_neg (by omega),Cw];obtain⟨i1,⟨v,hv1,g,i2,i3⟩,i4⟩:=aNp ht hf ha k [s] (fun v hv=>by simp at hv;subst hv;exact⟨⟨h0,h1⟩,h3⟩) (by simp);have:v=s:=by simpa using hv1
  subst this;refine .inl ⟨rfl,⟨g,⟨v,by simp,i2⟩,i3⟩,?_⟩;rintro x ⟨u,⟨y,hy,hp⟩,hg⟩ hlt;have:y=v:=by simpa using hy
  subst this;have hlt':slt x (nJ tab dist ls k [y]):=hlt
  rcases hlt' with h|⟨h,h'⟩
  ·exact h3.2 x.length (by omega) ⟨x,u,rfl,hp,hg⟩
  ·exact i4 x y u (by simp) (by omega) hp hg h'
 ·rw[hv]at h3;rw[h2,if_pos (by omega)];refine .inr ⟨rfl,?_⟩;rintro w ⟨u,⟨y,hy,hp⟩,hg⟩;have:y=s:=by simpa using hy
  subst this;exact h3 w.length ⟨w,u,rfl,hp,hg⟩
end
end
end Ev
end Go.Proofs.YthlkcebdfbjdoaaGreat
