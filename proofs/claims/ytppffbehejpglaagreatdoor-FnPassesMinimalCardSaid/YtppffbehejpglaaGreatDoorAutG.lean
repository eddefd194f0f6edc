/-
  A search that visits words in shortlex order finds the first word that leads to a goal: plain laws.
-/
import Derived.Test.YtppffbehejpglaaGreatDoorLeast
import Derived.Test.YtppffbehejpglaaGreatDoorAutM
import Derived.Test.YtppffbehejpglaaGreatDoorSafe
set_option linter.unusedSimpArgs false
set_option linter.unusedVariables false
set_option linter.unusedSectionVars false
set_option maxRecDepth 8000
set_option maxHeartbeats 4000000
namespace Go.Proofs.YtppffbehejpglaaGreatDoor
namespace Ev
section
structure PStep where
 par:Int
 lt:Int
 ns:List Int
instance:Inhabited PStep:=⟨⟨0,0,[]⟩⟩
def visG(gl:Int->Bool):List Int->List Bool->List Int->Bool->List Bool×List Int×Bool
 | [],s,f,b=>(s,f,b)
 |n::ns,s,f,b=>if s.getD n.toNat false=true then visG gl ns s f b else visG gl ns (s.set n.toNat true) (f++[n]) (b||gl n)
def addP(st:List PStep)(p l:Int)(f:List Int):List PStep:=if f=[]then st else st++[⟨p,l,f⟩]
def flat(nx:Int->Int->List Int)(ns:List Int)(l:Int):List Int:=ns.flatMap fun n=>nx n l
def ltG(nx:Int->Int->List Int)(gl:Int->Bool)(ns:List Int)(p:Int):List Int->List Bool×List PStep->Bool×List Bool×List PStep
 | [],q=>(false,q)
 |l::ls,q=>
  if(visG gl (flat nx ns l) q.1 [] false).2.2=true then(true,(visG gl (flat nx ns l) q.1 [] false).1,addP q.2 p l (visG gl (flat nx ns l) q.1 [] false).2.1)
  else ltG nx gl ns p ls ((visG gl (flat nx ns l) q.1 [] false).1,addP q.2 p l (visG gl (flat nx ns l) q.1 [] false).2.1)
def outG(nx:Int->Int->List Int)(gl:Int->Bool)(ls:List Int):Nat->Nat->List Bool×List PStep->Bool×List Bool×List PStep
 |0,_,q=>(false,q)
 |j+1,i,q=>if i<q.2.length then
   (if(ltG nx gl (q.2.getD i default).ns i ls q).1=true then ltG nx gl (q.2.getD i default).ns i ls q
    else outG nx gl ls j (i+1) (ltG nx gl (q.2.getD i default).ns i ls q).2)
  else(false,q)
def gM(st:List PStep):Nat->Nat->List Int
 |0,_=>[]
 |j+1,i=>if 0<=(st.getD i default).par then gM st j (st.getD i default).par.toNat++[(st.getD i default).lt]else []
def H9(nx:Int->Int->List Int)(gl:Int->Bool)(ls start:List Int)(size:Nat):List Int×Bool:=
 if(visG gl start (List.replicate size false) [] false).2.2=true then([],true)
 else if(outG nx gl ls (size+1) 0 ((visG gl start (List.replicate size false) [] false).1,addP [] (-1) 0 (visG gl start (List.replicate size false) [] false).2.1)).1=true then
  (gM (outG nx gl ls (size+1) 0 ((visG gl start (List.replicate size false) [] false).1,addP [] (-1) 0 (visG gl start (List.replicate size false) [] false).2.1)).2.2
   (outG nx gl ls (size+1) 0 ((visG gl start (List.replicate size false) [] false).1,addP [] (-1) 0 (visG gl start (List.replicate size false) [] false).2.1)).2.2.length
   ((outG nx gl ls (size+1) 0 ((visG gl start (List.replicate size false) [] false).1,addP [] (-1) 0 (visG gl start (List.replicate size false) [] false).2.1)).2.2.length-1),true)
 else([],false)
def Sn(s:List Bool)(n:Int):Prop:=s.getD n.toNat false=true
theorem aXn{s:List Bool}{n m:Int}(h0:0<=n)(h1:n<s.length)(hm:0<=m):Sn (s.set n.toNat true) m↔m=n\/Sn s m:=by
 unfold Sn;rw[Aa,Aa,Cp]
 by_cases h:n.toNat=m.toNat
 ·have:m=n:=om;subst this;simp[show m.toNat<s.length by omega]
 ·have:m≠n:=om;simp[h,this]
structure Vis(gl:Int->Bool)(ns:List Int)(s:List Bool)(f:List Int)(b:Bool)(r:List Bool×List Int×Bool):Prop where
 seen:∀m,0<=m->(Sn r.1 m↔Sn s m\/m∈ns)
 new:∀m,m∈r.2.1↔m∈f\/(m∈ns/\¬Sn s m)
 hit:r.2.2=true↔b=true\/∃m,m∈ns/\¬Sn s m/\gl m=true
 cnt:r.2.1.length+r.1.count false=f.length+s.count false
 len:r.1.length=s.length
theorem aGR:∀ {s:List Bool} {k:Nat},s.getD k false=false->k<s.length->(s.set k true).count false+1=s.count false
 | [],k,h,hk=>by simp at hk
 |b::s,0,h,hk=>by
  simp at h;subst h;simp
 |b::s,k+1,h,hk=>by
  have ih:=aGR (s:=s) (k:=k) (by simpa using h) (by simpa using hk);simp only[Bt,List.count_cons];omega
theorem aGg(gl:Int->Bool):∀(ns:List Int) (s:List Bool) (f:List Int) (b:Bool),(∀n∈ns,0<=n/\n<s.length)->Vis gl ns s f b (visG gl ns s f b)
 | [],s,f,b,_=>⟨by simp[visG],by simp[visG],by simp[visG],rfl,rfl⟩
 |n::ns,s,f,b,h=>by
  have h2:=h n Bd;unfold visG
  split
  ·rename_i h1
   have ih:=aGg gl ns s f b fun m hm=>h m (Az _ hm);refine⟨fun m hm=> ?_,fun m=> ?_,?_,ih.cnt,ih.len⟩
   ·rw[ih.seen m hm]
    constructor
    ·rintro(k|k)
     ·exact .inl k
     ·exact .inr (Az _ k)
    ·rintro(k|k)
     ·exact .inl k
     ·rcases Au.1 k with rfl|k
      ·exact .inl h1
      ·exact .inr k
   ·rw[ih.new m]
    constructor
    ·rintro(k|⟨k,k2⟩)
     ·exact .inl k
     ·exact .inr ⟨Az _ k,k2⟩
    ·rintro(k|⟨k,k2⟩)
     ·exact .inl k
     ·rcases Au.1 k with rfl|k
      ·exact(k2 h1).elim
      ·exact .inr ⟨k,k2⟩
   ·rw[ih.hit]
    constructor
    ·rintro(k|⟨m,k,k2⟩)
     ·exact .inl k
     ·exact .inr ⟨m,Az _ k,k2⟩
    ·rintro(k|⟨m,k,k2⟩)
     ·exact .inl k
     ·rcases Au.1 k with rfl|k
      ·exact(k2.1 h1).elim
      ·exact .inr ⟨m,k,k2⟩
  ·rename_i h1
   have ih:=aGg gl ns (s.set n.toNat true) (f++[n]) (b||gl n) fun m hm=>by simpa using h m (Az _ hm)
   have hpos:∀m∈ns,0<=m:=fun m hm=>(h m (Az _ hm)).1;have hs:=fun {m:Int} (hm:0<=m)=>aXn (s:=s) (n:=n) (m:=m) h2.1 h2.2 hm;refine⟨fun m hm=> ?_,fun m=> ?_,?_,?_,?_⟩
   ·rw[ih.seen m hm,hs hm,Au]
    constructor
    ·rintro((k|k)|k)
     ·exact .inr (.inl k)
     ·exact .inl k
     ·exact .inr (.inr k)
    ·rintro(k|k|k)
     ·exact .inl (.inr k)
     ·exact .inl (.inl k)
     ·exact .inr k
   ·rw[ih.new m,Ak,Bf,Au]
    constructor
    ·rintro((k|rfl)|⟨k,k2⟩)
     ·exact .inl k
     ·exact .inr ⟨.inl rfl,h1⟩
     ·rw[hs (hpos m k)]at k2;exact .inr ⟨.inr k,fun h3=>k2 (.inr h3)⟩
    ·rintro(k|⟨rfl|k,k2⟩)
     ·exact .inl (.inl k)
     ·exact .inl (.inr rfl)
     ·by_cases hmn:m=n
      ·exact .inl (.inr hmn)
      ·refine .inr ⟨k,fun h3=> ?_⟩;rw[hs (hpos m k)]at h3
       rcases h3 with h3|h3
       ·exact hmn h3
       ·exact k2 h3
   ·rw[ih.hit,Bool.or_eq_true]
    constructor
    ·rintro((k|k)|⟨m,k,k2,k3⟩)
     ·exact .inl k
     ·exact .inr ⟨n,Bd,h1,k⟩
     ·rw[hs (hpos m k)]at k2;exact .inr ⟨m,Az _ k,fun h3=>k2 (.inr h3),k3⟩
    ·rintro(k|⟨m,k,k2,k3⟩)
     ·exact .inl (.inl k)
     ·by_cases hmn:m=n
      ·subst hmn;exact .inl (.inr k3)
      ·rcases Au.1 k with k|k
       ·exact(hmn k).elim
       ·refine .inr ⟨m,k,fun h3=> ?_,k3⟩;rw[hs (hpos m k)]at h3
        rcases h3 with h3|h3
        ·exact hmn h3
        ·exact k2 h3
   ·have:=aGR (s:=s) (k:=n.toNat) (by simpa using h1) om;have hc:=ih.cnt;simp only[Af,Ae,Ac]at hc;omega
   ·have:=ih.len
    simpa using this
section
variable{nx:Int->Int->List Int}{gl:Int->Bool}{ls start:List Int}{size:Nat}
def Asc(l:List Int):Prop:=l.Pairwise (·<·)
structure Mid(nx:Int->Int->List Int)(gl:Int->Bool)(ls start:List Int)(size:Nat)(i:Nat)(ds:List Int)(s:List Bool)(st:List PStep)(W:Nat->List Int):Prop where
 len:s.length=size
 room:st.length+s.count false<=size
 wide:∀k,k<st.length->(st.getD k default).ns.length<=size
 par0:∀k,k<st.length->((st.getD k default).par<0/\W k=[])\/(∃p:Nat,(st.getD k default).par=p/\p<k/\(p<i\/p=i/\(st.getD k default).lt∈ds)/\W k=W p++[(st.getD k default).lt])
 nodes:∀k,k<st.length->∀n∈(st.getD k default).ns,sB nx ls start (W k) n/\Sn s n/\(0<=n/\n<size)
 all:∀n,0<=n->Sn s n->∃k,k<st.length/\n∈(st.getD k default).ns
 asc:∀j k,j<k->k<st.length->slt (W j) (W k)
 least:∀k,k<st.length->∀n∈(st.getD k default).ns,∀w,sB nx ls start w n->¬slt w (W k)
 none:∀n,0<=n->Sn s n->gl n=false
 begun:∀n∈start,Sn s n
 done:∀k,k<st.length->∀p∈(st.getD k default).ns,∀l∈ls,(k<i\/k=i/\l∈ds)->∀m∈nx p l,Sn s m
theorem NV{n:Int}:sB nx ls start [] n↔n∈start:=by
 unfold sB Path
 constructor
 ·rintro⟨s,h,rfl⟩;exact h
 ·intro h;exact⟨n,h,rfl⟩
theorem TI{w:List Int}{l n:Int}:sB nx ls start (w++[l]) n↔l∈ls/\∃m,sB nx ls start w m/\n∈nx m l:=by
 unfold sB
 constructor
 ·rintro⟨s,h,k⟩;obtain⟨h1,m,h2,h3⟩:=aJg.1 k;exact⟨h1,m,⟨s,h,h2⟩,h3⟩
 ·rintro⟨h1,m,⟨s,h,h2⟩,h3⟩;exact⟨s,h,aJg.2 ⟨h1,m,h2,h3⟩⟩
theorem TR(w:List Int):w=[]\/∃u l,w=u++[l]:=by
 rcases List.eq_nil_or_concat w with h|⟨u,l,h⟩
 ·exact .inl h
 ·exact .inr ⟨u,l,by simpa using h⟩
theorem aPW{i:Nat}{ds:List Int}{l:Int}{rs:List Int}{s:List Bool}{st:List PStep}{W:Nat->List Int}(hm:Mid nx gl ls start size i ds s st W)(hi:i<st.length)(hls:ls=ds++l::rs)(ha:Asc ls)(hnx:∀p c:Int,0<=p->p<size->c∈ls->∀m∈nx p c,0<=m/\m<size)(hst:∀n∈start,0<=n/\n<size):
  ∀(q:Nat) (w:List Int),w.length=q->slt w (W i++[l])->∀n,sB nx ls start w n->Sn s n/\(0<=n/\n<size):=by
 intro q
 induction q with
 |zero=>
  intro w hw hlt n hc;have:w=[]:=Bw.1 hw;subst this;have:=NV.1 hc;exact⟨hm.begun n this,hst n this⟩
 |succ q ih=>
  intro w hw hlt n hc
  rcases TR w with rfl|⟨u,c,rfl⟩
  ·simp at hw
  obtain⟨hcl,p,hp,hn⟩:=TI.1 hc;have hul:u.length=q:=by simpa using hw
  have hu:slt u (W i++[l]):=N5 (.inl smp) hlt;obtain⟨hps,hpr⟩:=ih u hul hu p hp;refine⟨?_,hnx p c hpr.1 hpr.2 hcl n hn⟩;obtain⟨k,hk,hpk⟩:=hm.all p hpr.1 hps;have hle:=hm.least k hk p hpk u hp;have h2:=TJ.1 hlt;refine hm.done k hk p hpk c hcl ?_ n hn
  rcases Dd k i with h|h|h
  ·exact .inl h
  ·subst h;refine .inr ⟨rfl,?_⟩
   rcases h2 with h2|⟨_,h2⟩
   ·exact(hle h2).elim
   ·rw[hls]at hcl ha
    rcases Ak.1 hcl with h3|h3
    ·exact h3
    ·exfalso
     rcases Au.1 h3 with h4|h4
     ·omega
     ·have h5:=List.pairwise_append.1 ha;have:=(List.pairwise_cons.1 h5.2.1).1 c h4;omega
  ·exfalso;have h3:=hm.asc i k h hk
   rcases h2 with h2|⟨h2,_⟩
   ·exact hle (N5 h2 h3)
   ·subst h2;exact hle h3
theorem kC{α:Type}{l m:List α}{i:Nat}{d:α}(h:i<l.length):(l++m).getD i d=l.getD i d:=by
 rw[Aa,Aa,Be h]
theorem ZU{α:Type}{l:List α}{x d:α}:(l++[x]).getD l.length d=x:=by
 rw[Aa,Bo (Ab _)];simp
theorem aWJ{i:Nat}{ds:List Int}{s:List Bool}{st:List PStep}{W:Nat->List Int}(hm:Mid nx gl ls start size i ds s st W):∀(j k:Nat),k<j->k<st.length->gM st j k=W k:=by
 intro j
 induction j with
 |zero=>intro k hk;omega
 |succ j ih=>
  intro k hk hl;unfold gM
  rcases hm.par0 k hl with⟨h1,h2⟩|⟨p,h1,h2,_,h3⟩
  ·rw[if_neg om,h2]
  ·rw[if_pos om,h1,Ca,ih p om om,h3]
theorem aUQ{i:Nat}{ds:List Int}{l:Int}{rs:List Int}{s:List Bool}{st:List PStep}{W:Nat->List Int}(hm:Mid nx gl ls start size i ds s st W)(hi:i<st.length)(hls:ls=ds++l::rs)(ha:Asc ls)(hnx:∀p c:Int,0<=p->p<size->c∈ls->∀m∈nx p c,0<=m/\m<size)(hst:∀n∈start,0<=n/\n<size):
  ((visG gl (flat nx (st.getD i default).ns l) s [] false).2.2=true->PJ (Hits nx ls start gl) (W i++[l])/\(visG gl (flat nx (st.getD i default).ns l) s [] false).2.1≠[])/\
  ((visG gl (flat nx (st.getD i default).ns l) s [] false).2.2≠true->∃W',Mid nx gl ls start size i (ds++[l]) (visG gl (flat nx (st.getD i default).ns l) s [] false).1 (addP st i l (visG gl (flat nx (st.getD i default).ns l) s [] false).2.1) W'):=by
 have hll:l∈ls:=by rw[hls];simp
 have hreach:∀n∈flat nx (st.getD i default).ns l,sB nx ls start (W i++[l]) n/\(0<=n/\n<size):=by
  intro n hn;obtain⟨p,hp,hpn⟩:=Ck.1 hn;obtain⟨h1,_,h3⟩:=hm.nodes i hi p hp;exact⟨TI.2 ⟨hll,p,h1,hpn⟩,hnx p l h3.1 h3.2 hll n hpn⟩
 have hv:=aGg gl (flat nx (st.getD i default).ns l) s [] false fun n hn=>by rw[hm.len];exact(hreach n hn).2
 have hbef:=fun w=>aPW hm hi hls ha hnx hst w.length w rfl;generalize hns:flat nx (st.getD i default).ns l=ns at *;generalize hr:visG gl ns s [] false=r at *;obtain⟨s2,f,b⟩:=r;have v1:=hv.seen;have v2:∀m,m∈f↔m∈ns/\¬Sn s m:=fun m=>by have:=hv.new m;simpa using this
 have v3:b=true↔∃m,m∈ns/\¬Sn s m/\gl m=true:=by have:=hv.hit;simpa using this
 have v4:f.length+s2.count false=s.count false:=by have:=hv.cnt;simpa using this
 have v5:s2.length=s.length:=hv.len;simp only at v1|-
 constructor
 ·intro hb;obtain⟨m,h1,h2,h3⟩:=v3.1 hb;refine⟨⟨⟨m,(hreach m h1).1,h3⟩,?_⟩,?_⟩
  ·rintro x ⟨u,hu,hg⟩ hlt;obtain⟨k1,k2⟩:=hbef x hlt u hu;rw[hm.none u k2.1 k1]at hg;cases hg
  ·intro hf;have:=(v2 m).2 ⟨h1,h2⟩;rw[hf]at this;cases this
 ·intro hb
  have hnone:∀n,0<=n->Sn s2 n->gl n=false:=by
   intro n hn hs
   rcases(v1 n hn).1 hs with h|h
   ·exact hm.none n hn h
   ·by_cases hs0:Sn s n
    ·exact hm.none n hn hs0
    ·cases hg:gl n with
     |false=>rfl
     |true=>exact(hb (v3.2 ⟨n,h,hs0,hg⟩)).elim
  have hsn:∀n,0<=n->Sn s n->Sn s2 n:=fun n hn h=>(v1 n hn).2 (.inl h)
  have hdone:∀p∈(st.getD i default).ns,∀m∈nx p l,Sn s2 m:=by
   intro p hp m hmm;have:m∈ns:=by rw[<-hns];exact Ck.2 ⟨p,hp,hmm⟩
   exact(v1 m (hreach m this).2.1).2 (.inr this)
  unfold addP
  by_cases hf:f=[]
  ·rw[if_pos hf];subst hf;refine⟨W,⟨by rw[v5,hm.len],by have:=hm.room;simp at v4;omega,hm.wide,?_,?_,?_,hm.asc,hm.least,hnone,?_,?_⟩⟩
   ·intro k hk
    rcases hm.par0 k hk with h|⟨p,h1,h2,h3,h4⟩
    ·exact .inl h
    ·refine .inr ⟨p,h1,h2,?_,h4⟩
     rcases h3 with h3|⟨h3,h5⟩
     ·exact .inl h3
     ·exact .inr ⟨h3,Ea _ h5⟩
   ·intro k hk n hn;obtain⟨h1,h2,h3⟩:=hm.nodes k hk n hn;exact⟨h1,hsn n h3.1 h2,h3⟩
   ·intro n hn hs
    rcases(v1 n hn).1 hs with h|h
    ·exact hm.all n hn h
    ·by_cases hs0:Sn s n
     ·exact hm.all n hn hs0
     ·have:=(v2 n).2 ⟨h,hs0⟩;cases this
   ·intro n hn;exact hsn n (hst n hn).1 (hm.begun n hn)
   ·intro k hk p hp c hc hor m hmm;have hpr:=(hm.nodes k hk p hp).2.2;have hmr:=hnx p c hpr.1 hpr.2 hc m hmm
    rcases hor with h|⟨h,h2⟩
    ·exact hsn m hmr.1 (hm.done k hk p hp c hc (.inl h) m hmm)
    ·rcases Ak.1 h2 with h3|h3
     ·exact hsn m hmr.1 (hm.done k hk p hp c hc (.inr ⟨h,h3⟩) m hmm)
     ·simp at h3;subst h3;subst h;exact hdone p hp m hmm
  ·rw[if_neg hf];have hfl:0<f.length:=Ei.2 hf;refine⟨fun k=>if k=st.length then W i++[l]else W k,?_⟩;have hold:∀k,k<st.length->(st++[(⟨i,l,f⟩:PStep)]).getD k default=st.getD k default:=fun k hk=>kC hk;have hnew:(st++[(⟨i,l,f⟩:PStep)]).getD st.length default=⟨i,l,f⟩:=ZU;have hlen:(st++[(⟨i,l,f⟩:PStep)]).length=st.length+1:=smp
   have hmax:∀k,k<st.length->slt (W k) (W i++[l]):=by
    intro k hk
    rcases hm.par0 k hk with⟨_,h⟩|⟨p,h1,h2,h3,h4⟩
    ·rw[h];exact .inl smp
    ·rw[h4,TJ]
     rcases h3 with h3|⟨h3,h5⟩
     ·exact .inl (hm.asc p i h3 hi)
     ·subst h3;refine .inr ⟨rfl,?_⟩;rw[hls]at ha;have h6:=List.pairwise_append.1 ha;exact h6.2.2 _ h5 l Bd
   refine⟨by rw[v5,hm.len],by have:=hm.room;rw[hlen];omega,?_,?_,?_,?_,?_,?_,hnone,?_,?_⟩
   ·intro k hk;rw[hlen]at hk
    by_cases h:k<st.length
    ·rw[hold k h];exact hm.wide k h
    ·obtain rfl:k=st.length:=om;rw[hnew];have:=List.count_le_length (a:=false) (l:=s);have:=hm.len;show f.length<=size;omega
   ·intro k hk;rw[hlen]at hk
    by_cases h:k<st.length
    ·rw[hold k h];simp only[show k≠st.length by omega,if_false]
     rcases hm.par0 k h with h0|⟨p,h1,h2,h3,h4⟩
     ·exact .inl h0
     ·refine .inr ⟨p,h1,h2,?_,?_⟩
      ·rcases h3 with h3|⟨h3,h5⟩
       ·exact .inl h3
       ·exact .inr ⟨h3,Ea _ h5⟩
      ·rw[if_neg om];exact h4
    ·obtain rfl:k=st.length:=om;rw[hnew];refine .inr ⟨i,rfl,hi,.inr ⟨rfl,by simp⟩,?_⟩;simp only[if_true];rw[if_neg om]
   ·intro k hk n hn;rw[hlen]at hk
    by_cases h:k<st.length
    ·rw[hold k h]at hn;obtain⟨h1,h2,h3⟩:=hm.nodes k h n hn;simp only[show k≠st.length by omega,if_false];exact⟨h1,hsn n h3.1 h2,h3⟩
    ·obtain rfl:k=st.length:=om;rw[hnew]at hn;have h1:=((v2 n).1 hn).1;have h2:=hreach n h1;simp only[if_true];exact⟨h2.1,(v1 n h2.2.1).2 (.inr h1),h2.2⟩
   ·intro n hn hs
    by_cases hs0:Sn s n
    ·obtain⟨k,hk,h1⟩:=hm.all n hn hs0;exact⟨k,by omega,by rw[hold k hk];exact h1⟩
    ·rcases(v1 n hn).1 hs with h|h
     ·exact(hs0 h).elim
     ·exact⟨st.length,by omega,by rw[hnew];exact(v2 n).2 ⟨h,hs0⟩⟩
   ·intro j k hjk hk;rw[hlen]at hk
    by_cases h:k<st.length
    ·simp only[show k≠st.length by omega,show j≠st.length by omega,if_false];exact hm.asc j k hjk h
    ·obtain rfl:k=st.length:=om;simp only[show j≠st.length by omega,if_false,if_true];exact hmax j hjk
   ·intro k hk n hn w hw;rw[hlen]at hk
    by_cases h:k<st.length
    ·rw[hold k h]at hn;simp only[show k≠st.length by omega,if_false];exact hm.least k h n hn w hw
    ·obtain rfl:k=st.length:=om;rw[hnew]at hn;simp only[if_true];intro hlt;exact((v2 n).1 hn).2 (hbef w hlt n hw).1
   ·intro n hn;exact hsn n (hst n hn).1 (hm.begun n hn)
   ·intro k hk p hp c hc hor m hmm;rw[hlen]at hk
    by_cases h:k<st.length
    ·rw[hold k h]at hp;have hpr:=(hm.nodes k h p hp).2.2;have hmr:=hnx p c hpr.1 hpr.2 hc m hmm
     rcases hor with h1|⟨h1,h2⟩
     ·exact hsn m hmr.1 (hm.done k h p hp c hc (.inl h1) m hmm)
     ·rcases Ak.1 h2 with h3|h3
      ·exact hsn m hmr.1 (hm.done k h p hp c hc (.inr ⟨h1,h3⟩) m hmm)
      ·simp at h3;subst h3;subst h1;exact hdone p hp m hmm
    ·exfalso;omega
theorem aNP{i:Nat}(ha:Asc ls)(hnx:∀p c:Int,0<=p->p<size->c∈ls->∀m∈nx p c,0<=m/\m<size)(hst:∀n∈start,0<=n/\n<size){ns:List Int}:∀(rs ds:List Int) (s:List Bool) (st:List PStep) (W:Nat->List Int),Mid nx gl ls start size i ds s st W->i<st.length->ls=ds++rs->ns=(st.getD i default).ns->
  ((ltG nx gl ns i rs (s,st)).1=true->PJ (Hits nx ls start gl) (gM (ltG nx gl ns i rs (s,st)).2.2 (ltG nx gl ns i rs (s,st)).2.2.length ((ltG nx gl ns i rs (s,st)).2.2.length-1)))/\
  ((ltG nx gl ns i rs (s,st)).1≠true->st.length<=(ltG nx gl ns i rs (s,st)).2.2.length/\∃W',Mid nx gl ls start size (i+1) [] (ltG nx gl ns i rs (s,st)).2.1 (ltG nx gl ns i rs (s,st)).2.2 W'):=by
 intro rs
 induction rs with
 |nil=>
  intro ds s st W hm hi hls hns;simp only[Ai]at hls;subst hls;refine⟨fun h=>by simp[ltG]at h,fun _=>⟨Ab _,W,hm.len,hm.room,hm.wide,?_,hm.nodes,hm.all,hm.asc,hm.least,hm.none,hm.begun,?_⟩⟩
  ·intro k hk
   rcases hm.par0 k hk with h0|⟨p,h1,h2,h3,h4⟩
   ·exact .inl h0
   ·exact .inr ⟨p,h1,h2,.inl om,h4⟩
  ·intro k hk p hp l hl hor m hmm
   rcases hor with h|⟨_,h⟩
   ·exact hm.done k hk p hp l hl (by by_cases hki:k=i;exact .inr ⟨hki,hl⟩;exact .inl om) m hmm
   ·cases h
 |cons l rs ih=>
  intro ds s st W hm hi hls hns;obtain⟨h1,h2⟩:=aUQ hm hi hls ha hnx hst;rw[<-hns]at h1 h2;simp only[ltG]
  by_cases hb:(visG gl (flat nx ns l) s [] false).2.2=true
  ·simp only[hb,if_true];refine⟨fun _=> ?_,fun h=>(h rfl).elim⟩;obtain⟨k1,k2⟩:=h1 hb;unfold addP;rw[if_neg k2];simp only[Af,Ae,Ac,Ag,Nat.add_sub_cancel]
   have hw:gM (st++[⟨i,l,(visG gl (flat nx ns l) s [] false).2.1⟩]) (st.length+1) st.length=W i++[l]:=by
    unfold gM;rw[ZU];simp only[Ca];rw[if_pos om]
    congr 1
    have hpre:∀(j k:Nat),k<j->k<st.length->∀x,gM (st++[x]) j k=gM st j k:=by
     intro j
     induction j with
     |zero=>intro k hk;omega
     |succ j ihj=>
      intro k hk hl x;unfold gM;rw[kC hl]
      rcases hm.par0 k hl with⟨h1,h2⟩|⟨p,h1,h2,_,h3⟩
      ·rw[if_neg om,if_neg om]
      ·rw[if_pos om,if_pos om,h1,Ca,ihj p om om]
    rw[hpre _ _ hi hi,aWJ hm _ _ hi hi]
   rw[hw];exact k1
  ·simp only[hb];obtain⟨W',hm'⟩:=h2 hb
   have hle:st.length<=(addP st i l (visG gl (flat nx ns l) s [] false).2.1).length:=by
    unfold addP;split<;>simp
   have hget:ns=((addP st i l (visG gl (flat nx ns l) s [] false).2.1).getD i default).ns:=by
    rw[hns];unfold addP
    split
    ·rfl
    ·rw[kC hi]
   obtain⟨g1,g2⟩:=ih (ds++[l]) _ _ W' hm' om (by rw[hls];simp) hget;exact⟨g1,fun h=>⟨Bp hle (g2 h).1,(g2 h).2⟩⟩
theorem aSP(ha:Asc ls)(hnx:∀p c:Int,0<=p->p<size->c∈ls->∀m∈nx p c,0<=m/\m<size)(hst:∀n∈start,0<=n/\n<size):∀(j i:Nat) (s:List Bool) (st:List PStep) (W:Nat->List Int),Mid nx gl ls start size i [] s st W->i<=st.length->size+1<=i+j->
  ((outG nx gl ls j i (s,st)).1=true->PJ (Hits nx ls start gl) (gM (outG nx gl ls j i (s,st)).2.2 (outG nx gl ls j i (s,st)).2.2.length ((outG nx gl ls j i (s,st)).2.2.length-1)))/\
  ((outG nx gl ls j i (s,st)).1≠true->∀w,¬Hits nx ls start gl w):=by
 have fin:∀(i:Nat) (s:List Bool) (st:List PStep) (W:Nat->List Int),Mid nx gl ls start size i [] s st W->¬i<st.length->∀w,¬Hits nx ls start gl w:=by
  intro i s st W hm hi w
  have key:∀(q:Nat) (w:List Int),w.length=q->∀n,sB nx ls start w n->Sn s n/\(0<=n/\n<size):=by
   intro q
   induction q with
   |zero=>
    intro w hw n hc;have:w=[]:=Bw.1 hw;subst this;have:=NV.1 hc;exact⟨hm.begun n this,hst n this⟩
   |succ q ih=>
    intro w hw n hc
    rcases TR w with rfl|⟨u,c,rfl⟩
    ·simp at hw
    obtain⟨hcl,p,hp,hn⟩:=TI.1 hc;obtain⟨h1,h2⟩:=ih u (by simpa using hw) p hp;obtain⟨k,hk,hpk⟩:=hm.all p h2.1 h1;exact⟨hm.done k hk p hpk c hcl (.inl om) n hn,hnx p c h2.1 h2.2 hcl n hn⟩
  rintro⟨u,hu,hg⟩;obtain⟨h1,h2⟩:=key w.length w rfl u hu;rw[hm.none u h2.1 h1]at hg;cases hg
 intro j
 induction j with
 |zero=>
  intro i s st W hm hi hj;have:=hm.room;exfalso;omega
 |succ j ih=>
  intro i s st W hm hi hj;simp only[outG]
  by_cases hlt:i<st.length
  ·simp only[hlt,if_true];obtain⟨h1,h2⟩:=aNP (ns:=(st.getD i default).ns) ha hnx hst ls [] s st W hm hlt rfl rfl
   by_cases hb:(ltG nx gl (st.getD i default).ns i ls (s,st)).1=true
   ·simp only[hb,if_true];exact⟨fun _=>h1 hb,fun h=>(h rfl).elim⟩
   ·simp only[hb];obtain⟨h3,W',hm'⟩:=h2 hb;exact ih (i+1) _ _ W' hm' (Bp hlt h3) om
  ·rw[if_neg hlt];exact⟨fun h=>Bool.noConfusion h,fun _=>fin i s st W hm hlt⟩
theorem aBi(ha:Asc ls)(hnx:∀p c:Int,0<=p->p<size->c∈ls->∀m∈nx p c,0<=m/\m<size)(hst:∀n∈start,0<=n/\n<size)(hne:start≠[]):ED (Hits nx ls start gl) (H9 nx gl ls start size):=by
 have hz:∀n,¬Sn (List.replicate size false) n:=by
  intro n;unfold Sn;rw[Aa,List.getElem?_replicate]
  split<;>simp
 have hv:=aGg gl start (List.replicate size false) [] false fun n hn=>by simpa using hst n hn
 unfold H9;generalize visG gl start (List.replicate size false) [] false=r at *;obtain⟨s2,f,b⟩:=r;have v1:∀m,0<=m->(Sn s2 m↔m∈start):=fun m hm=>by have:=hv.seen m hm;simp only[hz,false_or]at this;exact this
 have v2:∀m,m∈f↔m∈start:=fun m=>by have:=hv.new m;simpa [hz]using this
 have v3:b=true↔∃m,m∈start/\gl m=true:=by have:=hv.hit;simpa [hz]using this
 have v4:f.length+s2.count false=size:=by have:=hv.cnt;simpa using this
 have v5:s2.length=size:=by have:=hv.len;simpa using this
 simp only
 by_cases hb:b=true
 ·rw[if_pos hb];obtain⟨m,h1,h2⟩:=v3.1 hb;refine .inl ⟨rfl,⟨m,NV.2 h1,h2⟩,fun x _ hx=> ?_⟩
  rcases hx with hx|⟨hx,hy⟩
  ·simp at hx
  ·have:x=[]:=Bw.1 (by simpa using hx);subst this;exact hy
 ·rw[if_neg hb]
  have hf:f≠[]:=by
   intro h;apply hne
   cases start with
   |nil=>rfl
   |cons a az=>
    have:=(v2 a).2 Bd;rw[h]at this;cases this
  have hfl:0<f.length:=Ei.2 hf;have hst1:addP [] (-1) 0 f=[⟨-1,0,f⟩]:=by unfold addP;rw[if_neg hf];rfl
  rw[hst1]
  have hm:Mid nx gl ls start size 0 [] s2 [⟨-1,0,f⟩] (fun _=>[]):=by
   refine⟨v5,by simp;omega,?_,?_,?_,?_,?_,?_,?_,?_,?_⟩
   ·intro k hk;obtain rfl:k=0:=by simpa using hk
    show f.length<=size;omega
   ·intro k hk;obtain rfl:k=0:=by simpa using hk
    exact .inl ⟨by show(-1:Int)<0;decide,rfl⟩
   ·intro k hk n hn;obtain rfl:k=0:=by simpa using hk
    have h1:=(v2 n).1 hn;have h2:=hst n h1;exact⟨NV.2 h1,(v1 n h2.1).2 h1,h2⟩
   ·intro n hn hs;exact⟨0,by simp,(v2 n).2 ((v1 n hn).1 hs)⟩
   ·intro j k hjk hk;simp at hk;omega
   ·intro k hk n hn w hw hlt
    rcases hlt with h|⟨h,h2⟩
    ·simp at h
    ·have:w=[]:=Bw.1 (by simpa using h);subst this;exact h2
   ·intro n hn hs
    cases hg:gl n with
    |false=>rfl
    |true=>exact(hb (v3.2 ⟨n,(v1 n hn).1 hs,hg⟩)).elim
   ·intro n hn;exact(v1 n (hst n hn).1).2 hn
   ·intro k hk p hp l hl hor m hmm;obtain rfl:k=0:=by simpa using hk
    rcases hor with h|⟨_,h⟩
    ·omega
    ·cases h
  obtain⟨g1,g2⟩:=aSP ha hnx hst (size+1) 0 s2 [⟨-1,0,f⟩] _ hm smp om
  by_cases ho:(outG nx gl ls (size+1) 0 (s2,[⟨-1,0,f⟩])).1=true
  ·rw[if_pos ho];exact .inl ⟨rfl,g1 ho⟩
  ·rw[if_neg ho];exact .inr ⟨rfl,g2 ho⟩
end
end
section
variable{R:Type}{L n:Nat}
def badQ(n:Int)(r:List Int)(i:Nat):Bool:=!(decide (0<=r.getD i 0)&&decide (r.getD i 0<n))
def EN(w n:Int)(r:List Int):Bool:=!decide ((r.length:Int)=w)||(seek (badQ n r) r.length 0).isSome
def fV(w n:Int)(rs:List (List Int))(i:Nat):Bool:=EN w n (rs.getD i [])
def cA(al:Int)(rs:List (List Int))(ac:List Bool):Bool:=
 cP al&&decide ((1:Int)<=rs.length)&&decide ((rs.length:Int)<=12)&&decide ((ac.length:Int)=rs.length)&&(seek (fV (aB al).length rs.length rs) rs.length 0).isNone
theorem aMA{w n:Int}{r:List Int}(h:¬(r.length:Int)=w):EN w n r=true:=by
 unfold EN;rw[decide_eq_false h];rfl
theorem UH{w n:Int}{r:List Int}(h:(r.length:Int)=w):EN w n r=(seek (badQ n r) r.length 0).isSome:=by
 unfold EN;rw[decide_eq_true h];rfl
theorem NZ{n:Int}{r:List Int}{i:Nat}:badQ n r i=true↔¬(0<=r.getD i 0/\r.getD i 0<n):=by
 unfold badQ;simp only[Cx,Bool.and_eq_false_iff,decide_eq_false_iff_not];omega
theorem BW{n:Int}{r:List Int}{i:Nat}:badQ n r i=false↔(0<=r.getD i 0/\r.getD i 0<n):=by
 unfold badQ;simp only[Bool.not_eq_false',Ar,decide_eq_true_eq]
theorem aNF{R:Type}{L nn:Nat}(hn:1<=nn){n:Int}{r:List Int}(hl:r.length<=4294967296){k:KE R}:∀(j:Nat) (i:Int) (m:Nat) (h0:0<=i) (hi:i+j=r.length) (hm:j<m),
  aT env (aA env L nn) L 0 [] Bz39 (S9 0) (Z1 (U1 (Z1 (U2 (U1 (Z2 (U16 (U4 (U2 (U1 ([]))))))))))) m (.d (.ivs r.length (ints r))::Y1 (nI n::Y2 (Y1 (.d (.bool false)::nI i::Y16 (Y4 (Y2 (Y1 ([])))))))) [] k
  =match seek (badQ n r) j i.toNat with
   |none=>k (.exit 0) (.d (.ivs r.length (ints r))::Y1 (nI n::Y2 (Y1 (.d (.bool false)::nI (r.length)::Y16 (Y4 (Y2 (Y1 ([])))))))) []
   |some q=>k .ret (.d (.ivs r.length (ints r))::Y1 (nI n::Y2 (Y1 (.d (.bool false)::nI q::Y16 (Y4 (Y2 (Y1 ([])))))))) []:=by
 intro j
 induction j with
 |zero=>
  intro i m h0 hi hm;obtain _|m:=m;omega;obtain rfl:i=r.length:=om
  simp-implicitDefEqProofs (maxSteps:=9^7) (disch:=try exact Dz) only[↓DN,↓kRet,UP,simprocAttr,Ah,u3,xJ,Tryz.f79]<;>rfl
 |succ j ih=>
  intro i m h0 hi hm;obtain _|m:=m;omega;have hc:i<r.length:=om;have hk:i.toNat<r.length:=om;have e1:(i+1).toNat=i.toNat+1:=om;have e3:((i.toNat:Nat):Int)=i:=om
  by_cases h1:r.getD i.toNat 0<0
  ·have hb:badQ n r i.toNat=true:=by rw[NZ];omega
   rw[fX hb]
   simp-implicitDefEqProofs (maxSteps:=9^7) (disch:=try exact Dz) only[↓DN,↓kAsg,↓kRet,UP,simprocAttr,hc,h1,e3,u3,xJ,Tryz.f79]
  ·by_cases h2:n<=r.getD i.toNat 0
   ·have hb:badQ n r i.toNat=true:=by rw[NZ];omega
    rw[fX hb]
    simp-implicitDefEqProofs (maxSteps:=9^7) (disch:=try exact Dz) only[↓DN,↓kAsg,↓kRet,UP,simprocAttr,hc,h1,h2,e3,u3,xJ,Tryz.f79]
   ·have hb:badQ n r i.toNat=false:=by rw[BW];omega
    rw[jK hb]
    simp-implicitDefEqProofs (maxSteps:=9^7) (disch:=try exact Dz) only[↓DN,↓kRet,UP,simprocAttr,hc,h1,h2,↓ih,e1,u3,xJ,Tryz.f79]
theorem aFx(hn:2<=n)(r:List Int)(w q:Int)(hl:r.length<=4294967296)(hL:2^60<=L):aA env L n 79 [.d (.ivs r.length (ints r)),nI w,nI q] []=some (.d (.bool (!EN w q r)),[]):=by
 unfold EN
 by_cases h1:(r.length:Int)=w
 ·have loop_a:=fun {R:Type} {n:Nat} (hn:1<=n) {k:KE R}=>aNF (R:=R) (L:=L) (nn:=n) hn (n:=q) hl (k:=k) r.length 0 L om om om;simp only[Df]at loop_a
  cases hs:seek (badQ q r) r.length 0 with
  |none=>
   rw[hs]at loop_a;obtain _|n:=n;omega
   simp-implicitDefEqProofs (maxSteps:=9^7) (disch:=try exact Dz) only[↓DN,↓kAsg,↓kRet,UP,simprocAttr,h1,↓loop_a,VA,M4,Tryz.f79]
  |some z=>
   rw[hs]at loop_a;obtain _|n:=n;omega
   simp-implicitDefEqProofs (maxSteps:=9^7) (disch:=try exact Dz) only[↓DN,↓kAsg,↓kRet,UP,simprocAttr,h1,↓loop_a,VA,M4,Tryz.f79]
 ·obtain _|n:=n;omega
  simp-implicitDefEqProofs (maxSteps:=9^7) (disch:=try exact Dz) only[↓DN,↓kAsg,↓kRet,UP,simprocAttr,h1,VA,M4,Tryz.f79]
theorem aGm:type_of% fun {L} r w q hl hL=>ks fun hn=> @aFx L _ hn r w q hl hL:=fun {L} r w q hl hL=>ks fun hn=> @aFx L _ hn r w q hl hL
theorem RJ(hL:2^60<=L)(hn:3<=n){al:Int}{rs:List (List Int)}{ac:List Bool}(hs:aW rs){k:KE R}:∀(j:Nat) (i:Int) (m:Nat) (h0:0<=i) (hi:i+j=rs.length) (hm:j<m),
  aT env (aA env L n) L 0 [] Bz61 (rS 0) (U1 (Z4 (U32 (U4 (U2 (U1 ([]))))))) m (Y1 (.ptr 0 0 0::.d (.bool false)::nI (rs.length)::nI i::Y32 (Y4 (Y2 (Y1 ([])))))) [.box [nI al,.d (.ivs rs.length (aE rs)),.d (.ivs ac.length (aD ac))]] k
  =match seek (fV (aB al).length rs.length rs) j i.toNat with
   |none=>k (.exit 0) (Y1 (.ptr 0 0 0::.d (.bool false)::nI (rs.length)::nI (rs.length)::Y32 (Y4 (Y2 (Y1 ([])))))) [.box [nI al,.d (.ivs rs.length (aE rs)),.d (.ivs ac.length (aD ac))]]
   |some q=>k .ret (Y1 (.ptr 0 0 0::.d (.bool false)::nI (rs.length)::nI q::Y32 (Y4 (Y2 (Y1 ([])))))) [.box [nI al,.d (.ivs rs.length (aE rs)),.d (.ivs ac.length (aD ac))]]:=by
 intro j;have hrl:=hs.1;have hll:=bO al
 induction j with
 |zero=>
  intro i m h0 hi hm;obtain _|m:=m;omega;obtain rfl:i=rs.length:=om
  simp-implicitDefEqProofs (maxSteps:=9^7) (disch:=try exact Dz) only[↓DN,↓kRet,UP,simprocAttr,Ah,mF,kQ,Tryz.f47]<;>rfl
 |succ j ih=>
  intro i m h0 hi hm;obtain _|m:=m;omega;have hc:i<rs.length:=om;have hk:i.toNat<rs.length:=om;have hrow:=pX hs hk;have e1:(i+1).toNat=i.toNat+1:=om;have e3:((i.toNat:Nat):Int)=i:=om
  cases hb:fV (aB al).length rs.length rs i.toNat with
  |true=>
   rw[fX hb];unfold fV at hb
   simp-implicitDefEqProofs (maxSteps:=9^7) (disch:=try exact Dz) only[↓DN,↓kAsg,↓kRet,UP,simprocAttr,↓gJ,↓aGm,LA,hc,hb,e3,mF,kQ,Tryz.f47]
  |false=>
   rw[jK hb];unfold fV at hb
   simp-implicitDefEqProofs (maxSteps:=9^7) (disch:=try exact Dz) only[↓DN,↓kRet,UP,simprocAttr,↓gJ,↓aGm,LA,hc,hb,↓ih,e1,mF,kQ,Tryz.f47]
theorem CG(hn:4<=n)(al:Int)(rs:List (List Int))(ac:List Bool)(hs:aW rs)(ha:ac.length<=4294967296)(hL:2^60<=L):aA env L n 47 [.agg [nI al,.d (.ivs rs.length (aE rs)),.d (.ivs ac.length (aD ac))]] []=some (.d (.bool (cA al rs ac)),[]):=by
 have hrl:=hs.1;have loop_a:=fun {R:Type} {n:Nat} (hn:3<=n) {k:KE R}=>RJ (R:=R) (L:=L) hL hn (al:=al) (ac:=ac) hs (k:=k) rs.length 0 L om om om;simp only[Df]at loop_a;unfold cA
 cases hq:cP al with
 |false=>
  obtain _|n:=n;omega
  simp-implicitDefEqProofs (maxSteps:=9^7) (disch:=try exact Dz) only[↓DN,↓kAsg,↓kRet,UP,simprocAttr,↓hY,hq,fQ,eQ,Tryz.f47]
 |true=>
  by_cases h1:(1:Int)<=rs.length
  ·have n1:¬(rs.length:Int)<1:=om
   by_cases h2:(rs.length:Int)<=12
   ·have n2:¬(12:Int)<rs.length:=om
    by_cases h3:(ac.length:Int)=rs.length
    ·cases hk:seek (fV (aB al).length rs.length rs) rs.length 0 with
     |none=>
      rw[hk]at loop_a;obtain _|n:=n;omega
      simp-implicitDefEqProofs (maxSteps:=9^7) (disch:=try exact Dz) only[↓DN,↓kAsg,↓kRet,UP,simprocAttr,↓hY,hq,h1,n1,h2,n2,h3,↓loop_a,fQ,eQ,Tryz.f47]
     |some z=>
      rw[hk]at loop_a;obtain _|n:=n;omega
      simp-implicitDefEqProofs (maxSteps:=9^7) (disch:=try exact Dz) only[↓DN,↓kAsg,↓kRet,UP,simprocAttr,↓hY,hq,h1,n1,h2,n2,h3,↓loop_a,fQ,eQ,Tryz.f47]
    ·obtain _|n:=n;omega
     simp-implicitDefEqProofs (maxSteps:=9^7) (disch:=try exact Dz) only[↓DN,↓kAsg,↓kRet,UP,simprocAttr,↓hY,hq,h1,n1,h2,n2,h3,fQ,eQ,Tryz.f47]
   ·have n2:(12:Int)<rs.length:=om;obtain _|n:=n;omega
    simp-implicitDefEqProofs (maxSteps:=9^7) (disch:=try exact Dz) only[↓DN,↓kAsg,↓kRet,UP,simprocAttr,↓hY,hq,h1,n1,h2,n2,fQ,eQ,Tryz.f47]
  ·have n1:(rs.length:Int)<1:=om;obtain _|n:=n;omega
   simp-implicitDefEqProofs (maxSteps:=9^7) (disch:=try exact Dz) only[↓DN,↓kAsg,↓kRet,UP,simprocAttr,↓hY,hq,h1,n1,fQ,eQ,Tryz.f47]
theorem bB:type_of% fun {L} al rs ac hs ha hL=>ks fun hn=> @CG L _ hn al rs ac hs ha hL:=fun {L} al rs ac hs ha hL=>ks fun hn=> @CG L _ hn al rs ac hs ha hL
theorem M0(hL:2^60<=L)(hn:3<=n){al q w:Int}{rs:List (List Int)}{ac:List Bool}(hs:aW rs){r:List Int}(hr:r.length<=4294967296){k:KE R}:∀(j:Nat) (i:Int) (m:Nat) (h0:0<=i) (hi:i+j=r.length) (hm:j<m),
  aT env (aA env L n) L 0 [] Bz10 (i8 1) (U1 (Z2 (Z1 (U32 (U2 (Z2 (Z1 (U4 (U2 (U1 (Z2 (Z1 (U8 (U4 (U2 ([])))))))))))))))) m (Y1 (.ptr 0 0 0::.d (.bool false)::nI w::Y32 (Y2 (.d (.ivs rs.length (aE rs))::nI (rs.length)::nI q::Y4 (Y2 (Y1 (.d (.ivs r.length (ints r))::nI (r.length)::nI i::Y8 (Y4 (Y2 ([])))))))))) [.box [nI al,.d (.ivs rs.length (aE rs)),.d (.ivs ac.length (aD ac))]] k
  =match seek (badQ rs.length r) j i.toNat with
   |none=>k (.exit 2) (Y1 (.ptr 0 0 0::.d (.bool false)::nI w::Y32 (Y2 (.d (.ivs rs.length (aE rs))::nI (rs.length)::nI q::Y4 (Y2 (Y1 (.d (.ivs r.length (ints r))::nI (r.length)::nI (r.length)::Y8 (Y4 (Y2 ([])))))))))) [.box [nI al,.d (.ivs rs.length (aE rs)),.d (.ivs ac.length (aD ac))]]
   |some z=>k .ret (Y1 (.ptr 0 0 0::.d (.bool false)::nI w::Y32 (Y2 (.d (.ivs rs.length (aE rs))::nI (rs.length)::nI q::Y4 (Y2 (Y1 (.d (.ivs r.length (ints r))::nI (r.length)::nI z::Y8 (Y4 (Y2 ([])))))))))) [.box [nI al,.d (.ivs rs.length (aE rs)),.d (.ivs ac.length (aD ac))]]:=by
 intro j;have hrl:=hs.1
 induction j with
 |zero=>
  intro i m h0 hi hm;obtain _|m:=m;omega;obtain rfl:i=r.length:=om
  simp-implicitDefEqProofs (maxSteps:=9^7) (disch:=try exact Dz) only[↓DN,↓kRet,UP,simprocAttr,Ah,iX,hZ,Tryz.f15]<;>rfl
 |succ j ih=>
  intro i m h0 hi hm;obtain _|m:=m;omega;have hc:i<r.length:=om;have hk:i.toNat<r.length:=om;have e1:(i+1).toNat=i.toNat+1:=om;have e3:((i.toNat:Nat):Int)=i:=om
  by_cases h1:r.getD i.toNat 0<0
  ·have hb:badQ rs.length r i.toNat=true:=by rw[NZ];omega
   rw[fX hb]
   simp-implicitDefEqProofs (maxSteps:=9^7) (disch:=try exact Dz) only[↓DN,↓kAsg,↓kRet,UP,simprocAttr,hc,h1,e3,iX,hZ,Tryz.f15]
  ·by_cases h2:(rs.length:Int)<=r.getD i.toNat 0
   ·have hb:badQ rs.length r i.toNat=true:=by rw[NZ];omega
    rw[fX hb]
    simp-implicitDefEqProofs (maxSteps:=9^7) (disch:=try exact Dz) only[↓DN,↓kAsg,↓kRet,UP,simprocAttr,hc,h1,h2,e3,iX,hZ,Tryz.f15]
   ·have hb:badQ rs.length r i.toNat=false:=by rw[BW];omega
    rw[jK hb]
    simp-implicitDefEqProofs (maxSteps:=9^7) (disch:=try exact Dz) only[↓DN,↓kRet,UP,simprocAttr,hc,h1,h2,↓ih,e1,iX,hZ,Tryz.f15]
theorem MZ(hL:2^60<=L)(hn:3<=n){al:Int}{rs:List (List Int)}{ac:List Bool}(hs:aW rs){k:KE R}:∀(j:Nat) (i:Int) (m:Nat) (h0:0<=i) (hi:i+j=rs.length) (hm:j<m),
  aT env (aA env L n) L 0 [] Bz10 (i8 0) (U1 (Z2 (Z1 (U32 (U2 (Z2 (Z1 (U16 (U8 ([])))))))))) m (Y1 (.ptr 0 0 0::.d (.bool false)::nI ((aB al).length)::Y32 (Y2 (.d (.ivs rs.length (aE rs))::nI (rs.length)::nI i::Y16 (Y8 ([])))))) [.box [nI al,.d (.ivs rs.length (aE rs)),.d (.ivs ac.length (aD ac))]] k
  =match seek (fV (aB al).length rs.length rs) j i.toNat with
   |none=>k (.exit 0) (Y1 (.ptr 0 0 0::.d (.bool false)::nI ((aB al).length)::Y32 (Y2 (.d (.ivs rs.length (aE rs))::nI (rs.length)::nI (rs.length)::Y16 (Y8 ([])))))) [.box [nI al,.d (.ivs rs.length (aE rs)),.d (.ivs ac.length (aD ac))]]
   |some q=>k .ret (Y1 (.ptr 0 0 0::.d (.bool false)::nI ((aB al).length)::Y32 (Y2 (.d (.ivs rs.length (aE rs))::nI (rs.length)::nI q::Y16 (Y8 ([])))))) [.box [nI al,.d (.ivs rs.length (aE rs)),.d (.ivs ac.length (aD ac))]]:=by
 intro j;have hrl:=hs.1;have hll:=bO al
 induction j with
 |zero=>
  intro i m h0 hi hm;obtain _|m:=m;omega;obtain rfl:i=rs.length:=om
  simp-implicitDefEqProofs (maxSteps:=9^7) (disch:=try exact Dz) only[↓DN,↓kRet,UP,simprocAttr,Ah,iZ,iF,Tryz.f15]<;>rfl
 |succ j ih=>
  intro i m h0 hi hm;obtain _|m:=m;omega;have hc:i<rs.length:=om;have hk:i.toNat<rs.length:=om;have hrow:=pX hs hk;have e1:(i+1).toNat=i.toNat+1:=om;have e3:((i.toNat:Nat):Int)=i:=om;have loop_a:=fun {R:Type} {k:KE R}=>M0 (R:=R) (n:=n) (L:=L) hL hn (al:=al) (q:=i) (w:=(aB al).length) (ac:=ac) hs hrow (k:=k) (rs.getD i.toNat []).length 0 L om om om;simp only[Df]at loop_a
  cases hb:fV (aB al).length rs.length rs i.toNat with
  |true=>
   rw[fX hb];unfold fV at hb
   by_cases hw:((rs.getD i.toNat []).length:Int)=(aB al).length
   ·have hwd:decide (((rs.getD i.toNat []).length:Int)=(aB al).length)=true:=decide_eq_true hw
    cases hz:seek (badQ rs.length (rs.getD i.toNat [])) (rs.getD i.toNat []).length 0 with
    |none=>rw[UH hw,hz]at hb;cases hb
    |some z=>
     rw[hz]at loop_a;clear ih hb
     simp-implicitDefEqProofs (maxSteps:=9^7) (disch:=try exact Dz) only[↓DN,↓kRet,UP,simprocAttr,LA,hc,hwd,↓loop_a,e3,iZ,iF,Tryz.f15]
   ·clear ih hb loop_a
    simp-implicitDefEqProofs (maxSteps:=9^7) (disch:=try exact Dz) only[↓DN,↓kAsg,↓kRet,UP,simprocAttr,LA,hc,hw,e3,iZ,iF,Tryz.f15]
  |false=>
   rw[jK hb];unfold fV at hb
   by_cases hw:((rs.getD i.toNat []).length:Int)=(aB al).length
   ·have hwd:decide (((rs.getD i.toNat []).length:Int)=(aB al).length)=true:=decide_eq_true hw
    cases hz:seek (badQ rs.length (rs.getD i.toNat [])) (rs.getD i.toNat []).length 0 with
    |none=>
     rw[hz]at loop_a;clear hb
     simp-implicitDefEqProofs (maxSteps:=9^7) (disch:=try exact Dz) only[↓DN,↓kRet,UP,simprocAttr,LA,hc,hwd,↓loop_a,↓ih,e1,iZ,iF,Tryz.f15]
    |some z=>rw[UH hw,hz]at hb;cases hb
   ·rw[aMA hw]at hb;cases hb
theorem CE(hn:4<=n)(al:Int)(rs:List (List Int))(ac:List Bool)(hs:aW rs)(ha:ac.length<=4294967296)(hL:2^60<=L):aA env L n 15 [.agg [nI al,.d (.ivs rs.length (aE rs)),.d (.ivs ac.length (aD ac))]] []=some (.d (.bool (cA al rs ac)),[]):=by
 have hrl:=hs.1;have hll:=bO al;have loop_a:=fun {R:Type} {n:Nat} (hn:3<=n) {k:KE R}=>MZ (R:=R) (L:=L) hL hn (al:=al) (ac:=ac) hs (k:=k) rs.length 0 L om om om;simp only[Df]at loop_a;unfold cA
 cases hq:cP al with
 |false=>
  obtain _|n:=n;omega
  simp-implicitDefEqProofs (maxSteps:=9^7) (disch:=try exact Dz) only[↓DN,↓kAsg,↓kRet,UP,simprocAttr,↓dW,hq,fP,eO,Tryz.f15]
 |true=>
  by_cases h1:(1:Int)<=rs.length
  ·have n1:¬(rs.length:Int)<1:=om
   by_cases h2:(rs.length:Int)<=12
   ·have n2:¬(12:Int)<rs.length:=om
    by_cases h3:(ac.length:Int)=rs.length
    ·cases hk:seek (fV (aB al).length rs.length rs) rs.length 0 with
     |none=>
      rw[hk]at loop_a;obtain _|n:=n;omega
      simp-implicitDefEqProofs (maxSteps:=9^7) (disch:=try exact Dz) only[↓DN,↓kAsg,↓kRet,UP,simprocAttr,↓dW,↓jD,hq,h1,n1,h2,n2,h3,↓loop_a,fP,eO,Tryz.f15]
     |some z=>
      rw[hk]at loop_a;obtain _|n:=n;omega
      simp-implicitDefEqProofs (maxSteps:=9^7) (disch:=try exact Dz) only[↓DN,↓kAsg,↓kRet,UP,simprocAttr,↓dW,↓jD,hq,h1,n1,h2,n2,h3,↓loop_a,fP,eO,Tryz.f15]
    ·obtain _|n:=n;omega
     simp-implicitDefEqProofs (maxSteps:=9^7) (disch:=try exact Dz) only[↓DN,↓kAsg,↓kRet,UP,simprocAttr,↓dW,hq,h1,n1,h2,n2,h3,fP,eO,Tryz.f15]
   ·have n2:(12:Int)<rs.length:=om;obtain _|n:=n;omega
    simp-implicitDefEqProofs (maxSteps:=9^7) (disch:=try exact Dz) only[↓DN,↓kAsg,↓kRet,UP,simprocAttr,↓dW,hq,h1,n1,h2,n2,fP,eO,Tryz.f15]
  ·have n1:(rs.length:Int)<1:=om;obtain _|n:=n;omega
   simp-implicitDefEqProofs (maxSteps:=9^7) (disch:=try exact Dz) only[↓DN,↓kAsg,↓kRet,UP,simprocAttr,↓dW,hq,h1,n1,fP,eO,Tryz.f15]
theorem a8:type_of% fun {L} al rs ac hs ha hL=>ks fun hn=> @CE L _ hn al rs ac hs ha hL:=fun {L} al rs ac hs ha hL=>ks fun hn=> @CE L _ hn al rs ac hs ha hL
end
section
variable{R:Type}{L n:Nat}
def gI(a l:Int):Nat:=((aB a).filter fun m=>decide (m<l)).length
def goI(al:Int)(rs:List (List Int))(q l:Int):Int:=if cN al l=true then(rs.getD q.toNat []).getD (gI al l) 0 else q
theorem six{l:Int}(h0:0<=l)(h1:l<6):l=0\/l=1\/l=2\/l=3\/l=4\/l=5:=om
theorem tJ{a l:Int}(h0:0<=l)(h1:l<6)(hb:cN a l=true):gI a l<(aB a).length/\(aB a)[gI a l]? =some l:=by
 unfold gI aB;generalize cN a=p at *
 rcases six h0 h1 with rfl|rfl|rfl|rfl|rfl|rfl<;>
  cases h0':p 0<;>cases h1':p 1<;>cases h2':p 2<;>cases h3':p 3<;>cases h4':p 4<;>cases h5':p 5<;>simp_all [List.filter]
theorem fR{a l:Int}:l∈aB a↔(0<=l/\l<6)/\cN a l=true:=by
 unfold aB;rw[List.mem_filter]
 constructor
 ·rintro⟨h1,h2⟩;simp at h1;exact⟨by omega,h2⟩
 ·rintro⟨h1,h2⟩;refine⟨?_,h2⟩
  rcases six h1.1 h1.2 with rfl|rfl|rfl|rfl|rfl|rfl<;>simp
theorem WU(a:Int):(aB a).Nodup:=by
 unfold aB;exact List.Nodup.sublist List.filter_sublist dc
def xP(q:Nat):Nat->Nat->List Int->List Int
 |0,_,t=>t
 |j+1,i,t=>xP q j (i+1) (t.set (q*6+i) q)
def u5(q:Nat)(row:List Int):List Int->Nat->List Int->List Int
 | [],_,t=>t
 |l::ls,i,t=>u5 q row ls (i+1) (t.set (q*6+l.toNat) (row.getD i 0))
def vG(ls:List Int):List (List Int)->Nat->List Int->List Int
 | [],_,t=>t
 |r::rs,q,t=>vG ls rs (q+1) (u5 q r ls 0 (xP q 6 0 t))
def iI(al:Int)(rs:List (List Int)):List Int:=vG (aB al) rs 0 (List.replicate (rs.length*6) 0)
theorem zA:∀(j q i:Nat) (t:List Int),(xP q j i t).length=t.length
 |0,_,_,_=>rfl
 |j+1,q,i,t=>by simp[xP,zA j]
theorem OT:∀(ls:List Int) (q i:Nat) (row t:List Int),(u5 q row ls i t).length=t.length
 | [],_,_,_,_=>rfl
 |l::ls,q,i,row,t=>by simp[u5,OT ls]
theorem O2:∀(rs:List (List Int)) (ls:List Int) (q:Nat) (t:List Int),(vG ls rs q t).length=t.length
 | [],_,_,_=>rfl
 |r::rs,ls,q,t=>by simp[vG,O2 rs,OT,zA]
theorem hU(al:Int)(rs:List (List Int)):(iI al rs).length=rs.length*6:=by simp[iI,O2]
theorem aD7{t:List Int}{k p:Nat}{v:Int}:(t.set k v).getD p 0=if p=k/\k<t.length then v else t.getD p 0:=by
 simp only[Aa,Cp]
 by_cases h:k=p
 ·subst h
  by_cases h2:k<t.length
  ·simp[h2]
  ·simp[h2]
 ·have h':¬p=k:=fun e=>h e.symm;simp[h,h']
theorem aAd:∀(j q i:Nat) (t:List Int) (p:Nat),q*6+i+j<=t.length->(xP q j i t).getD p 0=if q*6+i<=p/\p<q*6+i+j then(q:Int)else t.getD p 0
 |0,q,i,t,p,h=>by
  simp only[xP];rw[if_neg om]
 |j+1,q,i,t,p,h=>by
  simp only[xP];rw[aAd j q (i+1) _ p (by simp;omega),aD7]
  by_cases h1:q*6+(i+1)<=p/\p<q*6+(i+1)+j
  ·rw[if_pos h1,if_pos om]
  ·rw[if_neg h1]
   by_cases h2:p=q*6+i
   ·rw[if_pos ⟨h2,by omega⟩,if_pos om]
   ·rw[if_neg om,if_neg om]
theorem xT:∀(ls:List Int) (q i:Nat) (row t:List Int) (p:Nat),(∀l∈ls,p≠q*6+l.toNat)->(u5 q row ls i t).getD p 0=t.getD p 0
 | [],_,_,_,_,_,_=>rfl
 |l::ls,q,i,row,t,p,h=>by
  simp only[u5];rw[xT ls q (i+1) row _ p fun m hm=>h m (by simp[hm]),aD7,if_neg];intro hc;exact h l smp hc.1
theorem aAP:∀(ls:List Int) (q i:Nat) (row t:List Int) (k:Nat) (l:Int),ls[k]? =some l->ls.Nodup->(∀m∈ls,0<=m)->q*6+l.toNat<t.length->(u5 q row ls i t).getD (q*6+l.toNat) 0=row.getD (i+k) 0
 |l'::ls,q,i,row,t,0,l,h,hn,hp,hl=>by
  simp only[Cs,Option.some.injEq]at h;subst h;simp only[u5];rw[xT,aD7,if_pos ⟨rfl,hl⟩,By];intro m hm hc
  have h1:m=l':=by
   have h2:=hp m (by simp[hm]);have h3:=hp l' smp;omega
  subst h1;exact(Dx.1 hn).1 hm
 |l'::ls,q,i,row,t,k+1,l,h,hn,hp,hl=>by
  simp only[u5];rw[aAP ls q (i+1) row _ k l (by simpa using h) (Dx.1 hn).2 (fun m hm=>hp m (by simp[hm])) (by simpa using hl)]
  congr 1
  omega
theorem aNY{a:Int}:∀m∈aB a,0<=m:=fun m hm=>(fR.1 hm).1.1
theorem aIl{a:Int}:∀(rs:List (List Int)) (q0:Nat) (t:List Int) (q l:Nat),l<6->(q0+rs.length)*6<=t.length->
  (vG (aB a) rs q0 t).getD (q*6+l) 0=if q0<=q/\q<q0+rs.length then(if cN a l=true then(rs.getD (q-q0) []).getD (gI a l) 0 else(q:Int))else t.getD (q*6+l) 0
 | [],q0,t,q,l,hl,ht=>by
  simp only[vG];rw[if_neg (by simp only[Ac];omega)]
 |r::rs,q0,t,q,l,hl,ht=>by
  simp only[Ae]at ht|-;simp only[vG];rw[aIl rs (q0+1) _ q l hl (by rw[OT,zA];omega)]
  by_cases h1:q0+1<=q/\q<q0+1+rs.length
  ·rw[if_pos h1,if_pos (show q0<=q/\q<q0+(rs.length+1) by omega)];obtain⟨d,hd⟩:∃d,q-q0=d+1:=⟨q-q0-1,by omega⟩
   rw[hd,Er,show q-(q0+1)=d by omega]
  ·rw[if_neg h1]
   by_cases h2:q=q0
   ·subst h2;rw[if_pos (show q<=q/\q<q+(rs.length+1) by omega),Bj,List.getD_cons_zero]
    by_cases hb:cN a l=true
    ·rw[if_pos hb];have hp:=tJ (a:=a) (l:=l) om om hb;have hg:=aAP (aB a) q 0 r (xP q 6 0 t) (gI a l) l hp.2 (WU a) aNY (by rw[zA];simp;omega);rw[Ca]at hg;rw[hg,Ag]
    ·rw[if_neg hb,xT,aAd _ _ _ _ _ om,if_pos om];intro m hm hc;have hm2:=fR.1 hm;have:m=l:=om;subst this;exact hb hm2.2
   ·rw[if_neg (show ¬(q0<=q/\q<q0+(rs.length+1)) by omega),xT,aAd _ _ _ _ _ om,if_neg om];intro m hm hc;have hm2:=fR.1 hm;omega
theorem aQS{al:Int}{rs:List (List Int)}{q l:Int}(h0:0<=q)(h1:q<rs.length)(h2:0<=l)(h3:l<6):(iI al rs).getD (q.toNat*6+l.toNat) 0=goI al rs q l:=by
 unfold iI goI;rw[aIl rs 0 _ q.toNat l.toNat om smp];rw[if_pos om,Nat.sub_zero,show((l.toNat:Nat):Int)=l by omega,show((q.toNat:Nat):Int)=q by omega]
theorem QW{al:Int}{rs:List (List Int)}{q l:Int}(h0:0<=q)(h1:q<rs.length)(h2:0<=l)(h3:l<6):((((ints (iI al rs)).drop (q.toNat*6)).drop l.toNat).map A.d).head? =some (nI (goI al rs q l)):=by
 rw[Cl,ZG (by rw[hU];omega),aQS h0 h1 h2 h3]
theorem c_a6:env.P.cellsOf 97=6:=kr
theorem aI3:∀n:Nat,(List.replicate n [D.int .i64 0,.int .i64 0,.int .i64 0,.int .i64 0,.int .i64 0,.int .i64 0]).flatten=ints (List.replicate (n*6) 0)
 |0=>rfl
 |n+1=>by
  rw[Eh,List.flatten_cons,aI3 n,Nat.succ_mul];simp[ints,Eh]
theorem aWH{n:Int}{h:H}(h0:0<=n)(h1:n<=4294967296):iA env.P h 93 n n=some (.sl h.length 0 0 n.toNat,h++[.arr (ints (List.replicate (n.toNat*6) 0)) 6 0]):=by
 have hm:n<=(bI:Nat):=by unfold bI;omega
 have he:cY env.P 93=some 97:=kr;have hz:dA env.P 97=some (.agg [nI 0,nI 0,nI 0,nI 0,nI 0,nI 0]):=kr;have hok:fC env.P 97=true:=kr;simp only[iA,he,hz,a6,zT,Bb,hok,h0,hm,c_a6,Int.le_refl,and_self,if_true,aI3]
theorem aEn(hn:1<=n){al q:Int}{rs:List (List Int)}(hs:aW rs){r:List Int}(hq0:0<=q)(hq1:q<rs.length){k:KE R}:∀(j:Nat) (i:Int) (m:Nat) (t:List Int) (len:Nat) (h0:0<=i) (hi:i+j=6) (hm:j<m) (ht:t.length=rs.length*6) (hlen:len=rs.length),
  aT env (aA env L n) L 0 [] Bz4 (lM 1) (U2 (Z4 (Z1 (U8 (U2 (U1 (Z2 (Z1 (U4 (Z1 (U16 (U8 (U4 ([])))))))))))))) m (Y2 (.d .nils::.sl 0 0 0 len::.d (.ivs (aB al).length (ints (aB al)))::nI q::.d (.ivs r.length (ints r))::Y8 (Y2 (Y1 (.d (.ivs rs.length (aE rs))::nI (rs.length)::nI q::Y4 (nI i::Y16 (Y8 (Y4 ([]))))))))) [.arr (ints t) 6 0] k
  =k (.exit 2) (Y2 (.d .nils::.sl 0 0 0 rs.length::.d (.ivs (aB al).length (ints (aB al)))::nI q::.d (.ivs r.length (ints r))::Y8 (Y2 (Y1 (.d (.ivs rs.length (aE rs))::nI (rs.length)::nI q::Y4 (nI 6::Y16 (Y8 (Y4 ([]))))))))) [.arr (ints (xP q.toNat j i.toNat t)) 6 0]:=by
 intro j;have hrl:=hs.1
 induction j with
 |zero=>
  intro i m t len h0 hi hm ht hlen;obtain _|m:=m;omega;obtain rfl:i=6:=om
  simp-implicitDefEqProofs (maxSteps:=9^7) (disch:=try exact Dz) only[↓DN,↓kRet,UP,simprocAttr,Ah,hlen,JP,GS,Tryz.f89]<;>rfl
 |succ j ih=>
  intro i m t len h0 hi hm ht hlen;obtain _|m:=m;omega;subst hlen;have hc:i<6:=om;have hk:q.toNat*6+i.toNat<t.length:=om;have e1:(i+1).toNat=i.toNat+1:=om;have e2:((q.toNat:Nat):Int)=q:=om
  simp-implicitDefEqProofs (maxSteps:=9^7) (disch:=try exact Dz) only[↓DN,↓kRet,UP,simprocAttr,hc,hq1,↓aBm,↓ih,JP,GS,Tryz.f89];rw[e1];simp only[xP,e2]
theorem aLv{a:Int}{i:Nat}(h:i<(aB a).length):(aB a).drop i=(aB a).getD i 0::(aB a).drop (i+1):=cC h
theorem aDE(hn:1<=n){al q:Int}{rs:List (List Int)}(hs:aW rs){r:List Int}(hr:r.length<=4294967296)(hrl2:(aB al).length<=r.length)(hq0:0<=q)(hq1:q<rs.length){k:KE R}:∀(j:Nat) (i:Int) (m:Nat) (t:List Int) (len:Nat) (h0:0<=i) (hi:i+j=(aB al).length) (hm:j<m) (ht:t.length=rs.length*6) (hlen:len=rs.length),
  aT env (aA env L n) L 0 [] Bz4 (lM 2) (U2 (Z4 (Z1 (U8 (U2 (U1 (Z2 (Z1 (U4 (Z1 (U8 (U1 (Z2 (Z1 (U16 ([])))))))))))))))) m (Y2 (.d .nils::.sl 0 0 0 len::.d (.ivs (aB al).length (ints (aB al)))::nI q::.d (.ivs r.length (ints r))::Y8 (Y2 (Y1 (.d (.ivs rs.length (aE rs))::nI (rs.length)::nI q::Y4 (nI 6::Y8 (Y1 (.d (.ivs (aB al).length (ints (aB al)))::nI ((aB al).length)::nI i::Y16 ([]))))))))) [.arr (ints t) 6 0] k
  =k (.exit 4) (Y2 (.d .nils::.sl 0 0 0 rs.length::.d (.ivs (aB al).length (ints (aB al)))::nI q::.d (.ivs r.length (ints r))::Y8 (Y2 (Y1 (.d (.ivs rs.length (aE rs))::nI (rs.length)::nI q::Y4 (nI 6::Y8 (Y1 (.d (.ivs (aB al).length (ints (aB al)))::nI ((aB al).length)::nI ((aB al).length)::Y16 ([]))))))))) [.arr (ints (u5 q.toNat r ((aB al).drop i.toNat) i.toNat t)) 6 0]:=by
 intro j;have hrl:=hs.1;have hll:=bO al
 induction j with
 |zero=>
  intro i m t len h0 hi hm ht hlen;obtain _|m:=m;omega;obtain rfl:i=(aB al).length:=om
  simp-implicitDefEqProofs (maxSteps:=9^7) (disch:=try exact Dz) only[↓DN,↓kRet,UP,simprocAttr,Ah,hlen,JT,GR,Tryz.f89];simp only[Bu,u5]
 |succ j ih=>
  intro i m t len h0 hi hm ht hlen;obtain _|m:=m;omega;subst hlen;have hc:i<(aB al).length:=om;have hk1:i.toNat<(aB al).length:=om;have hk2:i.toNat<r.length:=om;have hv:=aUD b9 hk1;have hv6:(aB al).getD i.toNat 0<6:=om;have hv0:=hv.1;have hk:q.toNat*6+((aB al).getD i.toNat 0).toNat<t.length:=om;have e1:(i+1).toNat=i.toNat+1:=om
  simp-implicitDefEqProofs (maxSteps:=9^7) (disch:=try exact Dz) only[↓DN,↓kRet,UP,simprocAttr,hc,hq1,↓aBm,↓ih,JT,GR,Tryz.f89];rw[aLv hk1,e1];simp only[u5]
def yJ(w:Nat)(rs:List (List Int)):Prop:=∀r∈rs,r.length=w
theorem aHF{w:Nat}{rs:List (List Int)}(h:yJ w rs){k:Nat}(hk:k<rs.length):(rs.getD k []).length=w:=by
 rw[Aa,Ad hk];exact h _ (At hk)
theorem aDP(hL:2^60<=L)(hn:1<=n){al:Int}{rs:List (List Int)}(hs:aW rs)(hw:yJ (aB al).length rs){k:KE R}:∀(j:Nat) (i:Int) (m:Nat) (t:List Int) (len:Nat) (h0:0<=i) (hi:i+j=rs.length) (hm:j<m) (ht:t.length=rs.length*6) (hlen:len=rs.length),
  aT env (aA env L n) L 0 [] Bz4 (lM 0) (U2 (Z2 (Z1 (U8 (U4 (U1 (Z2 (Z1 (U32 (U1 ([]))))))))))) m (Y2 (.d .nils::.sl 0 0 0 len::.d (.ivs (aB al).length (ints (aB al)))::Y8 (Y4 (Y1 (.d (.ivs rs.length (aE rs))::nI (rs.length)::nI i::Y32 (Y1 ([]))))))) [.arr (ints t) 6 0] k
  =k (.exit 0) (Y2 (.d .nils::.sl 0 0 0 rs.length::.d (.ivs (aB al).length (ints (aB al)))::Y8 (Y4 (Y1 (.d (.ivs rs.length (aE rs))::nI (rs.length)::nI (rs.length)::Y32 (Y1 ([]))))))) [.arr (ints (vG (aB al) (rs.drop i.toNat) i.toNat t)) 6 0]:=by
 intro j;have hrl:=hs.1;have hll:=bO al
 induction j with
 |zero=>
  intro i m t len h0 hi hm ht hlen;obtain _|m:=m;omega;obtain rfl:i=rs.length:=om
  simp-implicitDefEqProofs (maxSteps:=9^7) (disch:=try exact Dz) only[↓DN,↓kRet,UP,simprocAttr,Ah,hlen,KB,GC,Tryz.f89];simp only[Bu,vG]
 |succ j ih=>
  intro i m t len h0 hi hm ht hlen;obtain _|m:=m;omega;subst hlen;have hc:i<rs.length:=om;have hk:i.toNat<rs.length:=om;have hrow:=pX hs hk;have hrw:=aHF hw hk;have e1:(i+1).toNat=i.toNat+1:=om;have loop_a1:=fun {R:Type} {k:KE R}=>aEn (R:=R) (L:=L) (n:=n) hn (al:=al) (q:=i) (r:=rs.getD i.toNat []) hs h0 hc (k:=k) 6 0 L t rs.length om om om ht rfl;have loop_a2:=fun {R:Type} {k:KE R}=>aDE (R:=R) (L:=L) (n:=n) hn (al:=al) (q:=i) hs (r:=rs.getD i.toNat []) hrow om h0 hc (k:=k) (aB al).length 0 L (xP i.toNat 6 0 t) rs.length om om om (by rw[zA];exact ht) rfl;simp only[Df,Ba]at loop_a1 loop_a2;have ht2:(u5 i.toNat (rs.getD i.toNat []) (aB al) 0 (xP i.toNat 6 0 t)).length=rs.length*6:=by rw[OT,zA];exact ht
  clear hrw
  simp-implicitDefEqProofs (maxSteps:=9^7) (disch:=try exact Dz) only[↓DN,↓kRet,UP,simprocAttr,LA,hc,↓loop_a1,↓loop_a2,↓ih,KB,GC,Tryz.f89];rw[cC hk (d:=[]),e1];simp only[vG]
theorem ZV(hn:3<=n)(al:Int)(rs:List (List Int))(z:Nat)(cs:List D)(hs:aW rs)(hw:yJ (aB al).length rs)(hL:2^60<=L):aA env L n 89 [.agg [nI al,.d (.ivs rs.length (aE rs)),.d (.ivs z cs)]] []=some (.d (.ivs rs.length (ints (iI al rs))),[]):=by
 have hrl:=hs.1;have loop_a:=fun {R:Type} {n:Nat} (hn:1<=n) {k:KE R}=>aDP (R:=R) (L:=L) (n:=n) hL hn (al:=al) hs hw (k:=k) rs.length 0 L (List.replicate (rs.length*6) 0) rs.length om om om smp rfl;simp only[Df,Ba]at loop_a;have htl:(iI al rs).length=rs.length*6:=hU al rs;have htl2:rs.length*6<=(vG (aB al) rs 0 (List.replicate (rs.length*6) 0)).length:=by rw[O2];simp
 have htk:(ints (vG (aB al) rs 0 (List.replicate (rs.length*6) 0))).take (rs.length*6)=ints (vG (aB al) rs 0 (List.replicate (rs.length*6) 0)):=cK (by rw[O2];simp);unfold iI;obtain _|n:=n;omega
 simp-implicitDefEqProofs (maxSteps:=9^7) (disch:=try exact Dz) only[↓DN,↓kAsg,↓kRet,UP,simprocAttr,↓jD,↓aWH,↓loop_a,htk,htl2,aLj,aC1,Tryz.f89]
theorem BZ:type_of% fun {L} al rs z cs hs hw hL=>ks fun hn=> @ZV L _ hn al rs z cs hs hw hL:=fun {L} al rs z cs hs hw hL=>ks fun hn=> @ZV L _ hn al rs z cs hs hw hL
end
section
variable{R:Type}{L n:Nat}
def cntB(a:Int):Nat->Int->Nat
 |0,_=>0
 |j+1,i=>(if cN a i=true then 1 else 0)+cntB a j (i+1)
theorem aQJ{a l:Int}(h0:0<=l)(h1:l<6):cntB a l.toNat 0=gI a l:=by
 unfold gI aB;generalize hp:cN a=p;have e:∀i,cN a i=p i:=fun i=>by rw[hp]
 rcases six h0 h1 with rfl|rfl|rfl|rfl|rfl|rfl<;>
  simp only[cntB,e,show(0:Int).toNat=0 from rfl,show(1:Int).toNat=1 from rfl,show(2:Int).toNat=2 from rfl,show(3:Int).toNat=3 from rfl,show(4:Int).toNat=4 from rfl,show(5:Int).toNat=5 from rfl,Int.zero_add,Int.reduceAdd]<;>
  cases h0':p 0<;>cases h1':p 1<;>cases h2':p 2<;>cases h3':p 3<;>cases h4':p 4<;>cases h5':p 5<;>simp_all [List.filter]
theorem aHv(hn:1<=n){a l:Int}(hl:l<6){k:KE R}:∀(j:Nat) (i c:Int) (m:Nat) (h0:0<=i) (hi:i+j=l) (hm:j<m) (hc0:0<=c) (hc1:c<=i),
  aT env (aA env L n) L 0 [] Bz60 (JX 0) (Z2 (U2 (Z2 (Z1 (U8 (U2 (U1 ([])))))))) m (nI a::nI l::Y2 (nI 0::nI c::nI i::Y8 (Y2 (Y1 ([]))))) [] k
  =k (.exit 0) (nI a::nI l::Y2 (nI 0::nI (c+cntB a j i)::nI l::Y8 (Y2 (Y1 ([]))))) []:=by
 intro j
 induction j with
 |zero=>
  intro i c m h0 hi hm hc0 hc1;obtain _|m:=m;omega;obtain rfl:i=l:=om
  simp-implicitDefEqProofs (maxSteps:=9^7) (disch:=try exact Dz) only[↓DN,↓kRet,UP,simprocAttr,Ah,yK,xM,Tryz.f154];simp only[cntB,Ap,Int.add_zero]
 |succ j ih=>
  intro i c m h0 hi hm hc0 hc1;obtain _|m:=m;omega;have hc:i<l:=om
  cases hb:cN a i with
  |true=>
   have e:c+1+(cntB a j (i+1):Int)=c+cntB a (j+1) i:=by simp only[cntB,hb,if_true];omega
   simp-implicitDefEqProofs (maxSteps:=9^7) (disch:=try exact Dz) only[↓DN,↓kRet,UP,simprocAttr,↓uX,hc,hb,↓ih,yK,xM,Tryz.f154];rw[e]
  |false=>
   have e:c+(cntB a j (i+1):Int)=c+cntB a (j+1) i:=by simp only[cntB,hb,Al,if_false];omega
   simp-implicitDefEqProofs (maxSteps:=9^7) (disch:=try exact Dz) only[↓DN,↓kRet,UP,simprocAttr,↓uX,hc,hb,↓ih,yK,xM,Tryz.f154];rw[e]
theorem aAG(hn:2<=n)(a l:Int)(h0:0<=l)(h1:l<6)(hL:2^60<=L):aA env L n 154 [nI a,nI l] []=some (nI (gI a l),[]):=by
 have loop_a:=fun {R:Type} {n:Nat} (hn:1<=n) {k:KE R}=>aHv (R:=R) (L:=L) hn (a:=a) h1 (k:=k) l.toNat 0 0 L om om om om om;rw[aQJ h0 h1]at loop_a;obtain _|n:=n;omega
 simp-implicitDefEqProofs (maxSteps:=9^7) (disch:=try exact Dz) only[↓DN,↓kAsg,UP,simprocAttr,↓loop_a,Int.zero_add,aNA,aCs,Tryz.f154]
theorem aLt:type_of% fun {L} a l h0 h1 hL=>ks fun hn=> @aAG L _ hn a l h0 h1 hL:=fun {L} a l h0 h1 hL=>ks fun hn=> @aAG L _ hn a l h0 h1 hL
theorem aVF{al q l:Int}{rs:List (List Int)}(h:cN al l=false):goI al rs q l=q:=by
 unfold goI;rw[h];rfl
theorem JA{al q l:Int}{rs:List (List Int)}(h:cN al l=true):goI al rs q l=(rs.getD q.toNat []).getD (gI al l) 0:=by
 unfold goI;rw[if_pos h]
theorem aJ2(hn:3<=n)(al q l:Int)(rs:List (List Int))(z:Nat)(cs:List D)(hs:aW rs)(hw:yJ (aB al).length rs)(hq0:0<=q)(hq1:q<rs.length)(h0:0<=l)(h1:l<6)(hL:2^60<=L):aA env L n 144 [.agg [nI al,.d (.ivs rs.length (aE rs)),.d (.ivs z cs)],nI q,nI l] []=some (nI (goI al rs q l),[]):=by
 have hrl:=hs.1;have hk:q.toNat<rs.length:=om;have hrow:=pX hs hk;have hrw:=aHF hw hk
 cases hb:cN al l with
 |false=>
  rw[aVF hb];clear hrw;obtain _|n:=n;omega
  simp-implicitDefEqProofs (maxSteps:=9^7) (disch:=try exact Dz) only[↓DN,↓kAsg,↓kRet,UP,simprocAttr,↓uX,hb,aIr,aDZ,Tryz.f144]
 |true=>
  rw[JA hb];have hp:=(tJ h0 h1 hb).1;have hp2:gI al l<(rs.getD q.toNat []).length:=om;have hp3:(gI al l:Int)<(rs.getD q.toNat []).length:=om;have hp4:((gI al l:Nat):Int).toNat=gI al l:=Ca _;clear hrw hp;obtain _|n:=n;omega
  simp-implicitDefEqProofs (maxSteps:=9^7) (disch:=try exact Dz) only[↓DN,↓kAsg,↓kRet,UP,simprocAttr,↓uX,↓aLt,LA,hb,hp4,aIr,aDZ,Tryz.f144]
theorem aIA:type_of% fun {L} al q l rs z cs hs hw hq0 hq1 h0 h1 hL=>ks fun hn=> @aJ2 L _ hn al q l rs z cs hs hw hq0 hq1 h0 h1 hL:=fun {L} al q l rs z cs hs hw hq0 hq1 h0 h1 hL=>ks fun hn=> @aJ2 L _ hn al q l rs z cs hs hw hq0 hq1 h0 h1 hL
theorem pJ{l:List (List Int)}{r:List Int}{z:Nat}(h:z=r.length):aE l++[.ivs z (ints r)]=aE (l++[r]):=by
 subst h;simp[aE,rowD]
theorem F3:aE []=[]:=rfl
theorem NW:aD []=[]:=rfl
def eR(l:List (List Int)):Nat:=if l=[]then 0 else 1
theorem aXz:eR []=0:=rfl
theorem aWr{l:List (List Int)}{r:List Int}:eR (l++[r])=1:=by simp[eR]
theorem aXE(l:List (List Int)):eR l=0\/eR l=1:=by unfold eR;split<;>simp
end
end Ev
end Go.Proofs.YtppffbehejpglaaGreatDoor
