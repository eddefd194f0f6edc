/-
  A search that visits words in shortlex order finds the first word that leads to a goal: plain laws.
-/
import Derived.Test.YtahbdkmimmnadaaGreatDoorDistG
import Derived.Test.YtahbdkmimmnadaaGreatDoorSysI
set_option linter.unusedSimpArgs false
set_option linter.unusedVariables false
set_option linter.unusedSectionVars false
set_option maxRecDepth 8000
set_option maxHeartbeats 4000000
namespace Go.Proofs.YtahbdkmimmnadaaGreatDoor
namespace Ev
section
structure PStep where
 par:Int
 lt:Int
 ns:List Int
instance:Inhabited PStep:=⟨⟨0,0,[]⟩⟩
def visG(gl:Int->Bool):List Int->List Bool->List Int->Bool->List Bool×List Int×Bool
 | [],s,f,b=>(s,f,b)
 |n::ns,s,f,b=>if s.getD n.toNat false=true then visG gl ns s f b else visG gl ns (s.set n.toNat true) (f++[n]) (b||gl n)
def addP(st:List PStep)(p l:Int)(f:List Int):List PStep:=if f=[]then st else st++[⟨p,l,f⟩]
def flat(nx:Int->Int->List Int)(ns:List Int)(l:Int):List Int:=ns.flatMap fun n=>nx n l
def ltG(nx:Int->Int->List Int)(gl:Int->Bool)(ns:List Int)(p:Int):List Int->List Bool×List PStep->Bool×List Bool×List PStep
 | [],q=>(false,q)
 |l::ls,q=>
  if(visG gl (flat nx ns l) q.1 [] false).2.2=true then(true,(visG gl (flat nx ns l) q.1 [] false).1,addP q.2 p l (visG gl (flat nx ns l) q.1 [] false).2.1)
  else ltG nx gl ns p ls ((visG gl (flat nx ns l) q.1 [] false).1,addP q.2 p l (visG gl (flat nx ns l) q.1 [] false).2.1)
def outG(nx:Int->Int->List Int)(gl:Int->Bool)(ls:List Int):Nat->Nat->List Bool×List PStep->Bool×List Bool×List PStep
 |0,_,q=>(false,q)
 |j+1,i,q=>if i<q.2.length then
   (if(ltG nx gl (q.2.getD i default).ns i ls q).1=true then ltG nx gl (q.2.getD i default).ns i ls q
    else outG nx gl ls j (i+1) (ltG nx gl (q.2.getD i default).ns i ls q).2)
  else(false,q)
def gS(st:List PStep):Nat->Nat->List Int
 |0,_=>[]
 |j+1,i=>if 0<=(st.getD i default).par then gS st j (st.getD i default).par.toNat++[(st.getD i default).lt]else []
def MX(nx:Int->Int->List Int)(gl:Int->Bool)(ls start:List Int)(size:Nat):List Int×Bool:=
 if(visG gl start (List.replicate size false) [] false).2.2=true then([],true)
 else if(outG nx gl ls (size+1) 0 ((visG gl start (List.replicate size false) [] false).1,addP [] (-1) 0 (visG gl start (List.replicate size false) [] false).2.1)).1=true then
  (gS (outG nx gl ls (size+1) 0 ((visG gl start (List.replicate size false) [] false).1,addP [] (-1) 0 (visG gl start (List.replicate size false) [] false).2.1)).2.2
   (outG nx gl ls (size+1) 0 ((visG gl start (List.replicate size false) [] false).1,addP [] (-1) 0 (visG gl start (List.replicate size false) [] false).2.1)).2.2.length
   ((outG nx gl ls (size+1) 0 ((visG gl start (List.replicate size false) [] false).1,addP [] (-1) 0 (visG gl start (List.replicate size false) [] false).2.1)).2.2.length-1),true)
 else([],false)
def Sn(s:List Bool)(n:Int):Prop:=s.getD n.toNat false=true
theorem aPf{s:List Bool}{n m:Int}(h0:0<=n)(h1:n<s.length)(hm:0<=m):Sn (s.set n.toNat true) m↔m=n\/Sn s m:=by
 unfold Sn;rw[Ab,Ab,Co]
 by_cases h:n.toNat=m.toNat
 ·have:m=n:=om;subst this;simp[show m.toNat<s.length by omega]
 ·have:m≠n:=om;simp[h,this]
structure Vis(gl:Int->Bool)(ns:List Int)(s:List Bool)(f:List Int)(b:Bool)(r:List Bool×List Int×Bool):Prop where
 seen:∀m,0<=m->(Sn r.1 m↔Sn s m\/m∈ns)
 new:∀m,m∈r.2.1↔m∈f\/(m∈ns/\¬Sn s m)
 hit:r.2.2=true↔b=true\/∃m,m∈ns/\¬Sn s m/\gl m=true
 cnt:r.2.1.length+r.1.count false=f.length+s.count false
 len:r.1.length=s.length
theorem ZX:∀ {s:List Bool} {k:Nat},s.getD k false=false->k<s.length->(s.set k true).count false+1=s.count false
 | [],k,h,hk=>by simp at hk
 |b::s,0,h,hk=>by
  simp at h;subst h;simp
 |b::s,k+1,h,hk=>by
  have ih:=ZX (s:=s) (k:=k) (by simpa using h) (by simpa using hk);simp only[Bk,List.count_cons];omega
theorem aAI(gl:Int->Bool):∀(ns:List Int) (s:List Bool) (f:List Int) (b:Bool),(∀n∈ns,0<=n/\n<s.length)->Vis gl ns s f b (visG gl ns s f b)
 | [],s,f,b,_=>⟨by simp[visG],by simp[visG],by simp[visG],rfl,rfl⟩
 |n::ns,s,f,b,h=>by
  have h2:=h n Bl;unfold visG
  split
  ·rename_i h1
   have ih:=aAI gl ns s f b fun m hm=>h m (Bi _ hm);refine⟨fun m hm=> ?_,fun m=> ?_,?_,ih.cnt,ih.len⟩
   ·rw[ih.seen m hm]
    constructor
    ·rintro(k|k)
     ·exact .inl k
     ·exact .inr (Bi _ k)
    ·rintro(k|k)
     ·exact .inl k
     ·rcases Au.1 k with rfl|k
      ·exact .inl h1
      ·exact .inr k
   ·rw[ih.new m]
    constructor
    ·rintro(k|⟨k,k2⟩)
     ·exact .inl k
     ·exact .inr ⟨Bi _ k,k2⟩
    ·rintro(k|⟨k,k2⟩)
     ·exact .inl k
     ·rcases Au.1 k with rfl|k
      ·exact(k2 h1).elim
      ·exact .inr ⟨k,k2⟩
   ·rw[ih.hit]
    constructor
    ·rintro(k|⟨m,k,k2⟩)
     ·exact .inl k
     ·exact .inr ⟨m,Bi _ k,k2⟩
    ·rintro(k|⟨m,k,k2⟩)
     ·exact .inl k
     ·rcases Au.1 k with rfl|k
      ·exact(k2.1 h1).elim
      ·exact .inr ⟨m,k,k2⟩
  ·rename_i h1
   have ih:=aAI gl ns (s.set n.toNat true) (f++[n]) (b||gl n) fun m hm=>by simpa using h m (Bi _ hm)
   have hpos:∀m∈ns,0<=m:=fun m hm=>(h m (Bi _ hm)).1;have hs:=fun {m:Int} (hm:0<=m)=>aPf (s:=s) (n:=n) (m:=m) h2.1 h2.2 hm;refine⟨fun m hm=> ?_,fun m=> ?_,?_,?_,?_⟩
   ·rw[ih.seen m hm,hs hm,Au]
    constructor
    ·rintro((k|k)|k)
     ·exact .inr (.inl k)
     ·exact .inl k
     ·exact .inr (.inr k)
    ·rintro(k|k|k)
     ·exact .inl (.inr k)
     ·exact .inl (.inl k)
     ·exact .inr k
   ·rw[ih.new m,Aq,Cc,Au]
    constructor
    ·rintro((k|rfl)|⟨k,k2⟩)
     ·exact .inl k
     ·exact .inr ⟨.inl rfl,h1⟩
     ·rw[hs (hpos m k)]at k2;exact .inr ⟨.inr k,fun h3=>k2 (.inr h3)⟩
    ·rintro(k|⟨rfl|k,k2⟩)
     ·exact .inl (.inl k)
     ·exact .inl (.inr rfl)
     ·by_cases hmn:m=n
      ·exact .inl (.inr hmn)
      ·refine .inr ⟨k,fun h3=> ?_⟩;rw[hs (hpos m k)]at h3
       rcases h3 with h3|h3
       ·exact hmn h3
       ·exact k2 h3
   ·rw[ih.hit,Bool.or_eq_true]
    constructor
    ·rintro((k|k)|⟨m,k,k2,k3⟩)
     ·exact .inl k
     ·exact .inr ⟨n,Bl,h1,k⟩
     ·rw[hs (hpos m k)]at k2;exact .inr ⟨m,Bi _ k,fun h3=>k2 (.inr h3),k3⟩
    ·rintro(k|⟨m,k,k2,k3⟩)
     ·exact .inl (.inl k)
     ·by_cases hmn:m=n
      ·subst hmn;exact .inl (.inr k3)
      ·rcases Au.1 k with k|k
       ·exact(hmn k).elim
       ·refine .inr ⟨m,k,fun h3=> ?_,k3⟩;rw[hs (hpos m k)]at h3
        rcases h3 with h3|h3
        ·exact hmn h3
        ·exact k2 h3
   ·have:=ZX (s:=s) (k:=n.toNat) (by simpa using h1) om;have hc:=ih.cnt;simp only[Ah,Ac,Aa]at hc;omega
   ·have:=ih.len
    simpa using this
section
variable{nx:Int->Int->List Int}{gl:Int->Bool}{ls start:List Int}{size:Nat}
def Asc(l:List Int):Prop:=l.Pairwise (·<·)
structure Mid(nx:Int->Int->List Int)(gl:Int->Bool)(ls start:List Int)(size:Nat)(i:Nat)(ds:List Int)(s:List Bool)(st:List PStep)(W:Nat->List Int):Prop where
 len:s.length=size
 room:st.length+s.count false<=size
 wide:∀k,k<st.length->(st.getD k default).ns.length<=size
 par0:∀k,k<st.length->((st.getD k default).par<0/\W k=[])\/(∃p:Nat,(st.getD k default).par=p/\p<k/\(p<i\/p=i/\(st.getD k default).lt∈ds)/\W k=W p++[(st.getD k default).lt])
 nodes:∀k,k<st.length->∀n∈(st.getD k default).ns,uP nx ls start (W k) n/\Sn s n/\(0<=n/\n<size)
 all:∀n,0<=n->Sn s n->∃k,k<st.length/\n∈(st.getD k default).ns
 asc:∀j k,j<k->k<st.length->slt (W j) (W k)
 least:∀k,k<st.length->∀n∈(st.getD k default).ns,∀w,uP nx ls start w n->¬slt w (W k)
 none:∀n,0<=n->Sn s n->gl n=false
 begun:∀n∈start,Sn s n
 done:∀k,k<st.length->∀p∈(st.getD k default).ns,∀l∈ls,(k<i\/k=i/\l∈ds)->∀m∈nx p l,Sn s m
theorem HF{n:Int}:uP nx ls start [] n↔n∈start:=by
 unfold uP Path
 constructor
 ·rintro⟨s,h,rfl⟩;exact h
 ·intro h;exact⟨n,h,rfl⟩
theorem M7{w:List Int}{l n:Int}:uP nx ls start (w++[l]) n↔l∈ls/\∃m,uP nx ls start w m/\n∈nx m l:=by
 unfold uP
 constructor
 ·rintro⟨s,h,k⟩;obtain⟨h1,m,h2,h3⟩:=aCv.1 k;exact⟨h1,m,⟨s,h,h2⟩,h3⟩
 ·rintro⟨h1,m,⟨s,h,h2⟩,h3⟩;exact⟨s,h,aCv.2 ⟨h1,m,h2,h3⟩⟩
theorem MK(w:List Int):w=[]\/∃u l,w=u++[l]:=by
 rcases List.eq_nil_or_concat w with h|⟨u,l,h⟩
 ·exact .inl h
 ·exact .inr ⟨u,l,by simpa using h⟩
theorem aJw{i:Nat}{ds:List Int}{l:Int}{rs:List Int}{s:List Bool}{st:List PStep}{W:Nat->List Int}(hm:Mid nx gl ls start size i ds s st W)(hi:i<st.length)(hls:ls=ds++l::rs)(ha:Asc ls)(hnx:∀p c:Int,0<=p->p<size->c∈ls->∀m∈nx p c,0<=m/\m<size)(hst:∀n∈start,0<=n/\n<size):
  ∀(q:Nat) (w:List Int),w.length=q->slt w (W i++[l])->∀n,uP nx ls start w n->Sn s n/\(0<=n/\n<size):=by
 intro q
 induction q with
 |zero=>
  intro w hw hlt n hc;have:w=[]:=Bw.1 hw;subst this;have:=HF.1 hc;exact⟨hm.begun n this,hst n this⟩
 |succ q ih=>
  intro w hw hlt n hc
  rcases MK w with rfl|⟨u,c,rfl⟩
  ·simp at hw
  obtain⟨hcl,p,hp,hn⟩:=M7.1 hc;have hul:u.length=q:=by simpa using hw
  have hu:slt u (W i++[l]):=H3 (.inl sm) hlt;obtain⟨hps,hpr⟩:=ih u hul hu p hp;refine⟨?_,hnx p c hpr.1 hpr.2 hcl n hn⟩;obtain⟨k,hk,hpk⟩:=hm.all p hpr.1 hps;have hle:=hm.least k hk p hpk u hp;have h2:=NR.1 hlt;refine hm.done k hk p hpk c hcl ?_ n hn
  rcases Dy k i with h|h|h
  ·exact .inl h
  ·subst h;refine .inr ⟨rfl,?_⟩
   rcases h2 with h2|⟨_,h2⟩
   ·exact(hle h2).elim
   ·rw[hls]at hcl ha
    rcases Aq.1 hcl with h3|h3
    ·exact h3
    ·exfalso
     rcases Au.1 h3 with h4|h4
     ·omega
     ·have h5:=List.pairwise_append.1 ha;have:=(List.pairwise_cons.1 h5.2.1).1 c h4;omega
  ·exfalso;have h3:=hm.asc i k h hk
   rcases h2 with h2|⟨h2,_⟩
   ·exact hle (H3 h2 h3)
   ·subst h2;exact hle h3
theorem hU{α:Type}{l m:List α}{i:Nat}{d:α}(h:i<l.length):(l++m).getD i d=l.getD i d:=by
 rw[Ab,Ab,Bb h]
theorem vW{α:Type}{l:List α}{x d:α}:(l++[x]).getD l.length d=x:=by
 rw[Ab,Bq (Ad _)];simp
theorem aOm{i:Nat}{ds:List Int}{s:List Bool}{st:List PStep}{W:Nat->List Int}(hm:Mid nx gl ls start size i ds s st W):∀(j k:Nat),k<j->k<st.length->gS st j k=W k:=by
 intro j
 induction j with
 |zero=>intro k hk;omega
 |succ j ih=>
  intro k hk hl;unfold gS
  rcases hm.par0 k hl with⟨h1,h2⟩|⟨p,h1,h2,_,h3⟩
  ·rw[if_neg om,h2]
  ·rw[if_pos om,h1,Cd,ih p om om,h3]
theorem aMp{i:Nat}{ds:List Int}{l:Int}{rs:List Int}{s:List Bool}{st:List PStep}{W:Nat->List Int}(hm:Mid nx gl ls start size i ds s st W)(hi:i<st.length)(hls:ls=ds++l::rs)(ha:Asc ls)(hnx:∀p c:Int,0<=p->p<size->c∈ls->∀m∈nx p c,0<=m/\m<size)(hst:∀n∈start,0<=n/\n<size):
  ((visG gl (flat nx (st.getD i default).ns l) s [] false).2.2=true->TK (Hits nx ls start gl) (W i++[l])/\(visG gl (flat nx (st.getD i default).ns l) s [] false).2.1≠[])/\
  ((visG gl (flat nx (st.getD i default).ns l) s [] false).2.2≠true->∃W',Mid nx gl ls start size i (ds++[l]) (visG gl (flat nx (st.getD i default).ns l) s [] false).1 (addP st i l (visG gl (flat nx (st.getD i default).ns l) s [] false).2.1) W'):=by
 have hll:l∈ls:=by rw[hls];simp
 have hreach:∀n∈flat nx (st.getD i default).ns l,uP nx ls start (W i++[l]) n/\(0<=n/\n<size):=by
  intro n hn;obtain⟨p,hp,hpn⟩:=Du.1 hn;obtain⟨h1,_,h3⟩:=hm.nodes i hi p hp;exact⟨M7.2 ⟨hll,p,h1,hpn⟩,hnx p l h3.1 h3.2 hll n hpn⟩
 have hv:=aAI gl (flat nx (st.getD i default).ns l) s [] false fun n hn=>by rw[hm.len];exact(hreach n hn).2
 have hbef:=fun w=>aJw hm hi hls ha hnx hst w.length w rfl;generalize hns:flat nx (st.getD i default).ns l=ns at *;generalize hr:visG gl ns s [] false=r at *;obtain⟨s2,f,b⟩:=r;have v1:=hv.seen;have v2:∀m,m∈f↔m∈ns/\¬Sn s m:=fun m=>by have:=hv.new m;simpa using this
 have v3:b=true↔∃m,m∈ns/\¬Sn s m/\gl m=true:=by have:=hv.hit;simpa using this
 have v4:f.length+s2.count false=s.count false:=by have:=hv.cnt;simpa using this
 have v5:s2.length=s.length:=hv.len;simp only at v1|-
 constructor
 ·intro hb;obtain⟨m,h1,h2,h3⟩:=v3.1 hb;refine⟨⟨⟨m,(hreach m h1).1,h3⟩,?_⟩,?_⟩
  ·rintro x ⟨u,hu,hg⟩ hlt;obtain⟨k1,k2⟩:=hbef x hlt u hu;rw[hm.none u k2.1 k1]at hg;cases hg
  ·intro hf;have:=(v2 m).2 ⟨h1,h2⟩;rw[hf]at this;cases this
 ·intro hb
  have hnone:∀n,0<=n->Sn s2 n->gl n=false:=by
   intro n hn hs
   rcases(v1 n hn).1 hs with h|h
   ·exact hm.none n hn h
   ·by_cases hs0:Sn s n
    ·exact hm.none n hn hs0
    ·cases hg:gl n with
     |false=>rfl
     |true=>exact(hb (v3.2 ⟨n,h,hs0,hg⟩)).elim
  have hsn:∀n,0<=n->Sn s n->Sn s2 n:=fun n hn h=>(v1 n hn).2 (.inl h)
  have hdone:∀p∈(st.getD i default).ns,∀m∈nx p l,Sn s2 m:=by
   intro p hp m hmm;have:m∈ns:=by rw[<-hns];exact Du.2 ⟨p,hp,hmm⟩
   exact(v1 m (hreach m this).2.1).2 (.inr this)
  unfold addP
  by_cases hf:f=[]
  ·rw[if_pos hf];subst hf;refine⟨W,⟨by rw[v5,hm.len],by have:=hm.room;simp at v4;omega,hm.wide,?_,?_,?_,hm.asc,hm.least,hnone,?_,?_⟩⟩
   ·intro k hk
    rcases hm.par0 k hk with h|⟨p,h1,h2,h3,h4⟩
    ·exact .inl h
    ·refine .inr ⟨p,h1,h2,?_,h4⟩
     rcases h3 with h3|⟨h3,h5⟩
     ·exact .inl h3
     ·exact .inr ⟨h3,List.mem_append_left _ h5⟩
   ·intro k hk n hn;obtain⟨h1,h2,h3⟩:=hm.nodes k hk n hn;exact⟨h1,hsn n h3.1 h2,h3⟩
   ·intro n hn hs
    rcases(v1 n hn).1 hs with h|h
    ·exact hm.all n hn h
    ·by_cases hs0:Sn s n
     ·exact hm.all n hn hs0
     ·have:=(v2 n).2 ⟨h,hs0⟩;cases this
   ·intro n hn;exact hsn n (hst n hn).1 (hm.begun n hn)
   ·intro k hk p hp c hc hor m hmm;have hpr:=(hm.nodes k hk p hp).2.2;have hmr:=hnx p c hpr.1 hpr.2 hc m hmm
    rcases hor with h|⟨h,h2⟩
    ·exact hsn m hmr.1 (hm.done k hk p hp c hc (.inl h) m hmm)
    ·rcases Aq.1 h2 with h3|h3
     ·exact hsn m hmr.1 (hm.done k hk p hp c hc (.inr ⟨h,h3⟩) m hmm)
     ·simp at h3;subst h3;subst h;exact hdone p hp m hmm
  ·rw[if_neg hf];have hfl:0<f.length:=Eb.2 hf;refine⟨fun k=>if k=st.length then W i++[l]else W k,?_⟩;have hold:∀k,k<st.length->(st++[(⟨i,l,f⟩:PStep)]).getD k default=st.getD k default:=fun k hk=>hU hk;have hnew:(st++[(⟨i,l,f⟩:PStep)]).getD st.length default=⟨i,l,f⟩:=vW;have hlen:(st++[(⟨i,l,f⟩:PStep)]).length=st.length+1:=sm
   have hmax:∀k,k<st.length->slt (W k) (W i++[l]):=by
    intro k hk
    rcases hm.par0 k hk with⟨_,h⟩|⟨p,h1,h2,h3,h4⟩
    ·rw[h];exact .inl sm
    ·rw[h4,NR]
     rcases h3 with h3|⟨h3,h5⟩
     ·exact .inl (hm.asc p i h3 hi)
     ·subst h3;refine .inr ⟨rfl,?_⟩;rw[hls]at ha;have h6:=List.pairwise_append.1 ha;exact h6.2.2 _ h5 l Bl
   refine⟨by rw[v5,hm.len],by have:=hm.room;rw[hlen];omega,?_,?_,?_,?_,?_,?_,hnone,?_,?_⟩
   ·intro k hk;rw[hlen]at hk
    by_cases h:k<st.length
    ·rw[hold k h];exact hm.wide k h
    ·obtain rfl:k=st.length:=om;rw[hnew];have:=List.count_le_length (a:=false) (l:=s);have:=hm.len;show f.length<=size;omega
   ·intro k hk;rw[hlen]at hk
    by_cases h:k<st.length
    ·rw[hold k h];simp only[show k≠st.length by omega,if_false]
     rcases hm.par0 k h with h0|⟨p,h1,h2,h3,h4⟩
     ·exact .inl h0
     ·refine .inr ⟨p,h1,h2,?_,?_⟩
      ·rcases h3 with h3|⟨h3,h5⟩
       ·exact .inl h3
       ·exact .inr ⟨h3,List.mem_append_left _ h5⟩
      ·rw[if_neg om];exact h4
    ·obtain rfl:k=st.length:=om;rw[hnew];refine .inr ⟨i,rfl,hi,.inr ⟨rfl,by simp⟩,?_⟩;simp only[if_true];rw[if_neg om]
   ·intro k hk n hn;rw[hlen]at hk
    by_cases h:k<st.length
    ·rw[hold k h]at hn;obtain⟨h1,h2,h3⟩:=hm.nodes k h n hn;simp only[show k≠st.length by omega,if_false];exact⟨h1,hsn n h3.1 h2,h3⟩
    ·obtain rfl:k=st.length:=om;rw[hnew]at hn;have h1:=((v2 n).1 hn).1;have h2:=hreach n h1;simp only[if_true];exact⟨h2.1,(v1 n h2.2.1).2 (.inr h1),h2.2⟩
   ·intro n hn hs
    by_cases hs0:Sn s n
    ·obtain⟨k,hk,h1⟩:=hm.all n hn hs0;exact⟨k,by omega,by rw[hold k hk];exact h1⟩
    ·rcases(v1 n hn).1 hs with h|h
     ·exact(hs0 h).elim
     ·exact⟨st.length,by omega,by rw[hnew];exact(v2 n).2 ⟨h,hs0⟩⟩
   ·intro j k hjk hk;rw[hlen]at hk
    by_cases h:k<st.length
    ·simp only[show k≠st.length by omega,show j≠st.length by omega,if_false];exact hm.asc j k hjk h
    ·obtain rfl:k=st.length:=om;simp only[show j≠st.length by omega,if_false,if_true];exact hmax j hjk
   ·intro k hk n hn w hw;rw[hlen]at hk
    by_cases h:k<st.length
    ·rw[hold k h]at hn;simp only[show k≠st.length by omega,if_false];exact hm.least k h n hn w hw
    ·obtain rfl:k=st.length:=om;rw[hnew]at hn;simp only[if_true];intro hlt;exact((v2 n).1 hn).2 (hbef w hlt n hw).1
   ·intro n hn;exact hsn n (hst n hn).1 (hm.begun n hn)
   ·intro k hk p hp c hc hor m hmm;rw[hlen]at hk
    by_cases h:k<st.length
    ·rw[hold k h]at hp;have hpr:=(hm.nodes k h p hp).2.2;have hmr:=hnx p c hpr.1 hpr.2 hc m hmm
     rcases hor with h1|⟨h1,h2⟩
     ·exact hsn m hmr.1 (hm.done k h p hp c hc (.inl h1) m hmm)
     ·rcases Aq.1 h2 with h3|h3
      ·exact hsn m hmr.1 (hm.done k h p hp c hc (.inr ⟨h1,h3⟩) m hmm)
      ·simp at h3;subst h3;subst h1;exact hdone p hp m hmm
    ·exfalso;omega
theorem aHB{i:Nat}(ha:Asc ls)(hnx:∀p c:Int,0<=p->p<size->c∈ls->∀m∈nx p c,0<=m/\m<size)(hst:∀n∈start,0<=n/\n<size){ns:List Int}:∀(rs ds:List Int) (s:List Bool) (st:List PStep) (W:Nat->List Int),Mid nx gl ls start size i ds s st W->i<st.length->ls=ds++rs->ns=(st.getD i default).ns->
  ((ltG nx gl ns i rs (s,st)).1=true->TK (Hits nx ls start gl) (gS (ltG nx gl ns i rs (s,st)).2.2 (ltG nx gl ns i rs (s,st)).2.2.length ((ltG nx gl ns i rs (s,st)).2.2.length-1)))/\
  ((ltG nx gl ns i rs (s,st)).1≠true->st.length<=(ltG nx gl ns i rs (s,st)).2.2.length/\∃W',Mid nx gl ls start size (i+1) [] (ltG nx gl ns i rs (s,st)).2.1 (ltG nx gl ns i rs (s,st)).2.2 W'):=by
 intro rs
 induction rs with
 |nil=>
  intro ds s st W hm hi hls hns;simp only[Ai]at hls;subst hls;refine⟨fun h=>by simp[ltG]at h,fun _=>⟨Ad _,W,hm.len,hm.room,hm.wide,?_,hm.nodes,hm.all,hm.asc,hm.least,hm.none,hm.begun,?_⟩⟩
  ·intro k hk
   rcases hm.par0 k hk with h0|⟨p,h1,h2,h3,h4⟩
   ·exact .inl h0
   ·exact .inr ⟨p,h1,h2,.inl om,h4⟩
  ·intro k hk p hp l hl hor m hmm
   rcases hor with h|⟨_,h⟩
   ·exact hm.done k hk p hp l hl (by by_cases hki:k=i;exact .inr ⟨hki,hl⟩;exact .inl om) m hmm
   ·cases h
 |cons l rs ih=>
  intro ds s st W hm hi hls hns;obtain⟨h1,h2⟩:=aMp hm hi hls ha hnx hst;rw[<-hns]at h1 h2;simp only[ltG]
  by_cases hb:(visG gl (flat nx ns l) s [] false).2.2=true
  ·simp only[hb,if_true];refine⟨fun _=> ?_,fun h=>(h rfl).elim⟩;obtain⟨k1,k2⟩:=h1 hb;unfold addP;rw[if_neg k2];simp only[Ah,Ac,Aa,Af,Nat.add_sub_cancel]
   have hw:gS (st++[⟨i,l,(visG gl (flat nx ns l) s [] false).2.1⟩]) (st.length+1) st.length=W i++[l]:=by
    unfold gS;rw[vW];simp only[Cd];rw[if_pos om]
    congr 1
    have hpre:∀(j k:Nat),k<j->k<st.length->∀x,gS (st++[x]) j k=gS st j k:=by
     intro j
     induction j with
     |zero=>intro k hk;omega
     |succ j ihj=>
      intro k hk hl x;unfold gS;rw[hU hl]
      rcases hm.par0 k hl with⟨h1,h2⟩|⟨p,h1,h2,_,h3⟩
      ·rw[if_neg om,if_neg om]
      ·rw[if_pos om,if_pos om,h1,Cd,ihj p om om]
    rw[hpre _ _ hi hi,aOm hm _ _ hi hi]
   rw[hw];exact k1
  ·simp only[hb];obtain⟨W',hm'⟩:=h2 hb
   have hle:st.length<=(addP st i l (visG gl (flat nx ns l) s [] false).2.1).length:=by
    unfold addP;split<;>simp
   have hget:ns=((addP st i l (visG gl (flat nx ns l) s [] false).2.1).getD i default).ns:=by
    rw[hns];unfold addP
    split
    ·rfl
    ·rw[hU hi]
   obtain⟨g1,g2⟩:=ih (ds++[l]) _ _ W' hm' om (by rw[hls];simp) hget;exact⟨g1,fun h=>⟨Bf hle (g2 h).1,(g2 h).2⟩⟩
theorem aLh(ha:Asc ls)(hnx:∀p c:Int,0<=p->p<size->c∈ls->∀m∈nx p c,0<=m/\m<size)(hst:∀n∈start,0<=n/\n<size):∀(j i:Nat) (s:List Bool) (st:List PStep) (W:Nat->List Int),Mid nx gl ls start size i [] s st W->i<=st.length->size+1<=i+j->
  ((outG nx gl ls j i (s,st)).1=true->TK (Hits nx ls start gl) (gS (outG nx gl ls j i (s,st)).2.2 (outG nx gl ls j i (s,st)).2.2.length ((outG nx gl ls j i (s,st)).2.2.length-1)))/\
  ((outG nx gl ls j i (s,st)).1≠true->∀w,¬Hits nx ls start gl w):=by
 have fin:∀(i:Nat) (s:List Bool) (st:List PStep) (W:Nat->List Int),Mid nx gl ls start size i [] s st W->¬i<st.length->∀w,¬Hits nx ls start gl w:=by
  intro i s st W hm hi w
  have key:∀(q:Nat) (w:List Int),w.length=q->∀n,uP nx ls start w n->Sn s n/\(0<=n/\n<size):=by
   intro q
   induction q with
   |zero=>
    intro w hw n hc;have:w=[]:=Bw.1 hw;subst this;have:=HF.1 hc;exact⟨hm.begun n this,hst n this⟩
   |succ q ih=>
    intro w hw n hc
    rcases MK w with rfl|⟨u,c,rfl⟩
    ·simp at hw
    obtain⟨hcl,p,hp,hn⟩:=M7.1 hc;obtain⟨h1,h2⟩:=ih u (by simpa using hw) p hp;obtain⟨k,hk,hpk⟩:=hm.all p h2.1 h1;exact⟨hm.done k hk p hpk c hcl (.inl om) n hn,hnx p c h2.1 h2.2 hcl n hn⟩
  rintro⟨u,hu,hg⟩;obtain⟨h1,h2⟩:=key w.length w rfl u hu;rw[hm.none u h2.1 h1]at hg;cases hg
 intro j
 induction j with
 |zero=>
  intro i s st W hm hi hj;have:=hm.room;exfalso;omega
 |succ j ih=>
  intro i s st W hm hi hj;simp only[outG]
  by_cases hlt:i<st.length
  ·simp only[hlt,if_true];obtain⟨h1,h2⟩:=aHB (ns:=(st.getD i default).ns) ha hnx hst ls [] s st W hm hlt rfl rfl
   by_cases hb:(ltG nx gl (st.getD i default).ns i ls (s,st)).1=true
   ·simp only[hb,if_true];exact⟨fun _=>h1 hb,fun h=>(h rfl).elim⟩
   ·simp only[hb];obtain⟨h3,W',hm'⟩:=h2 hb;exact ih (i+1) _ _ W' hm' (Bf hlt h3) om
  ·rw[if_neg hlt];exact⟨fun h=>Bool.noConfusion h,fun _=>fin i s st W hm hlt⟩
theorem aOk(ha:Asc ls)(hnx:∀p c:Int,0<=p->p<size->c∈ls->∀m∈nx p c,0<=m/\m<size)(hst:∀n∈start,0<=n/\n<size)(hne:start≠[]):TL (Hits nx ls start gl) (MX nx gl ls start size):=by
 have hz:∀n,¬Sn (List.replicate size false) n:=by
  intro n;unfold Sn;rw[Ab,List.getElem?_replicate]
  split<;>simp
 have hv:=aAI gl start (List.replicate size false) [] false fun n hn=>by simpa using hst n hn
 unfold MX;generalize visG gl start (List.replicate size false) [] false=r at *;obtain⟨s2,f,b⟩:=r;have v1:∀m,0<=m->(Sn s2 m↔m∈start):=fun m hm=>by have:=hv.seen m hm;simp only[hz,false_or]at this;exact this
 have v2:∀m,m∈f↔m∈start:=fun m=>by have:=hv.new m;simpa [hz]using this
 have v3:b=true↔∃m,m∈start/\gl m=true:=by have:=hv.hit;simpa [hz]using this
 have v4:f.length+s2.count false=size:=by have:=hv.cnt;simpa using this
 have v5:s2.length=size:=by have:=hv.len;simpa using this
 simp only
 by_cases hb:b=true
 ·rw[if_pos hb];obtain⟨m,h1,h2⟩:=v3.1 hb;refine .inl ⟨rfl,⟨m,HF.2 h1,h2⟩,fun x _ hx=> ?_⟩
  rcases hx with hx|⟨hx,hy⟩
  ·simp at hx
  ·have:x=[]:=Bw.1 (by simpa using hx);subst this;exact hy
 ·rw[if_neg hb]
  have hf:f≠[]:=by
   intro h;apply hne
   cases start with
   |nil=>rfl
   |cons a az=>
    have:=(v2 a).2 Bl;rw[h]at this;cases this
  have hfl:0<f.length:=Eb.2 hf;have hst1:addP [] (-1) 0 f=[⟨-1,0,f⟩]:=by unfold addP;rw[if_neg hf];rfl
  rw[hst1]
  have hm:Mid nx gl ls start size 0 [] s2 [⟨-1,0,f⟩] (fun _=>[]):=by
   refine⟨v5,by simp;omega,?_,?_,?_,?_,?_,?_,?_,?_,?_⟩
   ·intro k hk;obtain rfl:k=0:=by simpa using hk
    show f.length<=size;omega
   ·intro k hk;obtain rfl:k=0:=by simpa using hk
    exact .inl ⟨by show(-1:Int)<0;decide,rfl⟩
   ·intro k hk n hn;obtain rfl:k=0:=by simpa using hk
    have h1:=(v2 n).1 hn;have h2:=hst n h1;exact⟨HF.2 h1,(v1 n h2.1).2 h1,h2⟩
   ·intro n hn hs;exact⟨0,by simp,(v2 n).2 ((v1 n hn).1 hs)⟩
   ·intro j k hjk hk;simp at hk;omega
   ·intro k hk n hn w hw hlt
    rcases hlt with h|⟨h,h2⟩
    ·simp at h
    ·have:w=[]:=Bw.1 (by simpa using h);subst this;exact h2
   ·intro n hn hs
    cases hg:gl n with
    |false=>rfl
    |true=>exact(hb (v3.2 ⟨n,(v1 n hn).1 hs,hg⟩)).elim
   ·intro n hn;exact(v1 n (hst n hn).1).2 hn
   ·intro k hk p hp l hl hor m hmm;obtain rfl:k=0:=by simpa using hk
    rcases hor with h|⟨_,h⟩
    ·omega
    ·cases h
  obtain⟨g1,g2⟩:=aLh ha hnx hst (size+1) 0 s2 [⟨-1,0,f⟩] _ hm sm om
  by_cases ho:(outG nx gl ls (size+1) 0 (s2,[⟨-1,0,f⟩])).1=true
  ·rw[if_pos ho];exact .inl ⟨rfl,g1 ho⟩
  ·rw[if_neg ho];exact .inr ⟨rfl,g2 ho⟩
end
end
def swp(l:List UInt8)(i j:Nat):List UInt8:=(l.set i (l.getD j 0)).set j (l.getD i 0)
theorem z5(l:List UInt8)(i j:Nat):(swp l i j).length=l.length:=by simp[swp]
theorem aOp{l:List UInt8}{i j:Nat}(hi:i<l.length)(hj:j<l.length){b:UInt8}(h:b∈swp l i j):b∈l:=by
 unfold swp at h;have key:∀ {l':List UInt8} {k:Nat} {v b:UInt8},b∈l'.set k v->b∈l'\/b=v:=fun h=>Dd h
 have at':∀ {k:Nat},k<l.length->l.getD k 0∈l:=fun hk=>by
  rw[Ab,Ae hk];exact Bd hk
 rcases key h with h|h
 ·rcases key h with h|h
  ·exact h
  ·rw[h];exact at' hj
 ·rw[h];exact at' hi
def revG:Nat->Int->Int->List UInt8->Int×Int×List UInt8
 |0,i,j,l=>(i,j,l)
 |q+1,i,j,l=>if i<j then revG q (i+1) (j-1) (swp l i.toNat j.toNat)else(i,j,l)
theorem aBg:∀(q:Nat) (i j:Int) (l:List UInt8),0<=i->j<l.length->(revG q i j l).2.2.length=l.length/\∀b∈(revG q i j l).2.2,b∈l
 |0,i,j,l,_,_=>⟨rfl,fun b h=>h⟩
 |q+1,i,j,l,h0,h1=>by
  unfold revG
  split
  ·rename_i hlt
   have ih:=aBg q (i+1) (j-1) (swp l i.toNat j.toNat) om (by rw[z5];omega);rw[z5]at ih;exact⟨ih.1,fun b hb=>aOp om om (ih.2 b hb)⟩
  ·exact⟨rfl,fun b h=>h⟩
theorem aOc{call:aW}{thaw:List Nat}{dst:Option Tmp}{x y:Operand}{g k:Nat}{l:List UInt8}{b:UInt8}(hk:k<l.length):memD env call thaw dst (.store 5 x y) [.arr (bE l) 1 g] [.ptr 0 g k,.d (.int .u8 (b.toNat:Int))]=some (.d .undef,[.arr (bE (l.set k b)) 1 g],{ ids:=[0],ro:=false,wr:=[0]}):=by
 have hst:=aMn (h:=[]) (g:=g) (e:=1) (b:=b) hk;have e1:aC aD [O.arr (bE l) 1 g] (idsL [.ptr 0 g k,.d (.int .u8 (b.toNat:Int))]) []=[0]:=rfl;have e2:pack [O.arr (bE l) 1 g] [0]=[O.arr (bE l) 1 g]:=rfl;have e3:aE (aH [0]) [.ptr 0 g k,.d (.int .u8 (b.toNat:Int))]=[.ptr 0 g k,.d (.int .u8 (b.toNat:Int))]:=rfl;unfold memD;rw[e1];simp only[box];rw[e2,e3];simp only[evOp,dV,two,hst,Ax]<;>rfl
theorem aL5{R:Type}{L n g:Nat}{k:KE R}:∀(q:Nat) (i j:Int) (m:Nat) (l:List UInt8) (len:Nat) (h0:0<=i) (hj:j<l.length) (hq:j-i<q) (hm:q<m) (hl:len=l.length) (hs:l.length<=2147483648) (hj0:-1<=j),
  aV env (aA env L n) L 1 [] Bz45 (fZ 0) Bz65 m (.sl 0 g 0 len::Y1 (nI i::nI j::Y16 (Y8 ([])))) [.arr (bE l) 1 g] k
  =k (.exit 0) (.sl 0 g 0 len::Y1 (nI ((revG q i j l).1)::nI ((revG q i j l).2.1)::Y16 (Y8 ([])))) [.arr (bE (revG q i j l).2.2) 1 g]:=by
 intro q
 induction q with
 |zero=>
  intro i j m l len h0 hj hq hm hl hs hj0;obtain _|m:=m;omega;have hc:¬i<j:=om
  simp-implicitDefEqProofs (maxSteps:=9^7) (disch:=try exact Dz) only[↓DN,↓kRet,UP,simprocAttr,hc,gU,fO,Tryz.f251]<;>rfl
 |succ q ih=>
  intro i j m l len h0 hj hq hm hl hs hj0;obtain _|m:=m;omega
  by_cases hc:i<j
  ·have hi1:i<(len:Int):=om;have hj1:j<(len:Int):=om;have hi2:i.toNat<l.length:=om;have hj2:j.toNat<l.length:=om;have hj3:j.toNat<(l.set i.toNat (l.getD j.toNat 0)).length:=by rw[Be];exact hj2
   have hj4:(0:Int)<=j:=om;have ih':=ih (i+1) (j-1) m (swp l i.toNat j.toNat) len om (by rw[z5];omega) om om (by rw[z5];exact hl) (by rw[z5];exact hs) om;unfold swp at ih'
   simp-implicitDefEqProofs (maxSteps:=9^7) (disch:=try exact Dz) only[↓DN,↓kRet,UP,simprocAttr,hc,↓aOc,↓ih',gU,fO,Tryz.f251];simp only[revG,hc,if_true,swp]
  ·simp-implicitDefEqProofs (maxSteps:=9^7) (disch:=try exact Dz) only[↓DN,↓kRet,UP,simprocAttr,hc,gU,fO,Tryz.f251];simp only[revG,hc,if_false]
theorem aPo{L n g:Nat}(hn:1<=n)(l:List UInt8)(hs:l.length<=2147483648)(hL:2^60<=L):aA env L n 251 [.sl 0 g 0 l.length] [.arr (bE l) 1 g]=some (.tup [],[.arr (bE (revG (l.length+1) 0 ((l.length:Int)-1) l).2.2) 1 g]):=by
 have lp:∀ {R:Type} {n:Nat} {k:KE R},aV env (aA env L n) L 1 [] Bz45 (fZ 0) Bz65 L (.sl 0 g 0 l.length::Y1 (nI 0::nI ((l.length:Int)-1)::Y16 (Y8 ([])))) [.arr (bE l) 1 g] k
  =k (.exit 0) (.sl 0 g 0 l.length::Y1 (nI ((revG (l.length+1) 0 ((l.length:Int)-1) l).1)::nI ((revG (l.length+1) 0 ((l.length:Int)-1) l).2.1)::Y16 (Y8 ([])))) [.arr (bE (revG (l.length+1) 0 ((l.length:Int)-1) l).2.2) 1 g]:=
  fun {R n k}=>aL5 (l.length+1) 0 _ L l l.length (Int.le_refl _) om om om rfl hs om
 have loop_a:=@lp;obtain _|n:=n;omega
 simp-implicitDefEqProofs (maxSteps:=9^7) (disch:=try exact Dz) only[↓DN,↓kAsg,↓kRet,UP,simprocAttr,↓loop_a,AU,oZ,Tryz.f251]
theorem aPg{R:Type}{L n id g:Nat}{hq:H}{k:KA R}(hn:1<=n)(l:List UInt8)(hi:hq[id]? =some (.arr (bE l) 1 g))(hs:l.length<=2147483648)(hL:2^60<=L):aU env (aA env L n) hq 251 [.sl id g 0 l.length] k=k (.tup []) (hq.set id (.arr (bE (revG (l.length+1) 0 ((l.length:Int)-1) l).2.2) 1 g)):=
 aCi hi (by simp[idsL,idsA]) iO rfl (by simpa [aE,mapA,aH]using aPo hn l hs hL)
section
variable{R:Type}{L n:Nat}
def visF:List Int->List Bool->List Int->List Bool×List Int
 | [],s,f=>(s,f)
 |n::ns,s,f=>if s.getD n.toNat false=true then visF ns s f else visF ns (s.set n.toNat true) (f++[n])
def hM(s:List Bool):Nat:=s.count false
theorem XZ:∀(ns:List Int) (s:List Bool) (f:List Int),(visF ns s f).1.length=s.length
 | [],s,f=>rfl
 |n::ns,s,f=>by
  unfold visF
  split
  ·exact XZ ns s f
  ·rw[XZ ns];simp
theorem VI:∀ {s:List Bool} {k:Nat},s.getD k false=false->k<s.length->hM (s.set k true)+1=hM s
 | [],k,h,hk=>by simp at hk
 |b::s,0,h,hk=>by
  simp at h;subst h;simp[hM]
 |b::s,k+1,h,hk=>by
  have ih:=VI (s:=s) (k:=k) (by simpa using h) (by simpa using hk);simp only[hM]at ih|-;simp only[Bk,List.count_cons];omega
theorem G4:∀(ns:List Int) (s:List Bool) (f:List Int),(∀n∈ns,0<=n/\n<s.length)->(visF ns s f).2.length+hM (visF ns s f).1=f.length+hM s
 | [],s,f,h=>rfl
 |n::ns,s,f,h=>by
  unfold visF
  split
  ·exact G4 ns s f fun m hm=>h m (Bi _ hm)
  ·rename_i h1
   have h2:=h n Bl;rw[G4 ns _ _ fun m hm=>by simpa using h m (Bi _ hm)];have:=VI (s:=s) (k:=n.toNat) (by simpa using h1) om;simp only[Ah,Ac,Aa];omega
theorem WS:∀(ns:List Int) (s:List Bool) (f:List Int) (x:Int),x∈(visF ns s f).2->x∈f\/x∈ns
 | [],s,f,x,h=>.inl h
 |n::ns,s,f,x,h=>by
  unfold visF at h
  split at h
  ·rcases WS ns s f x h with h|h
   ·exact .inl h
   ·exact .inr (Bi _ h)
  ·rcases WS ns _ _ x h with h|h
   ·rcases Aq.1 h with h|h
    ·exact .inl h
    ·simp at h;subst h;exact .inr Bl
   ·exact .inr (Bi _ h)
theorem RX(s:List Bool):hM s<=s.length:=List.count_le_length
structure PGood(I:Int->Prop)(size:Nat)(s:List Bool)(st:List PStep):Prop where
 len:s.length=size
 node:∀p∈st,∀n∈p.ns,I n
 room:st.length+hM s<=size
 wide:∀p∈st,p.ns.length<=size
theorem aJN{I:Int->Prop}{size:Nat}{s:List Bool}{st:List PStep}(h:PGood I size s st){ns:List Int}(hI:∀n∈ns,I n)(hr:∀n,I n->0<=n/\n<size)(p l:Int):
  PGood I size (visF ns s []).1 (addP st p l (visF ns s []).2)/\(addP st p l (visF ns s []).2).length+hM (visF ns s []).1<=st.length+hM s/\st.length<=(addP st p l (visF ns s []).2).length:=by
 have hc:=G4 ns s [] fun n hn=>by
  have:=hr n (hI n hn);rw[h.len];exact this
 have hm:=WS ns s [];have hl:=XZ ns s [];have hu:=RX s;rw[h.len]at hu;have hroom:=h.room;simp only[Aa,Af]at hc;unfold addP
 split
 ·rename_i hf
  rw[hf]at hc;simp only[Aa,Af]at hc;exact⟨⟨by rw[hl,h.len],h.node,by omega,h.wide⟩,by omega,by omega⟩
 ·rename_i hf
  have hpos:0<(visF ns s []).2.length:=Eb.2 hf;refine⟨⟨by rw[hl,h.len],?_,by simp only[Ah,Ac,Aa];omega,?_⟩,by simp only[Ah,Ac,Aa];omega,by simp⟩
  ·intro q hq n hn
   rcases Aq.1 hq with hq|hq
   ·exact h.node q hq n hn
   ·simp at hq;subst hq
    rcases hm n hn with h1|h1
    ·cases h1
    ·exact hI n h1
  ·intro q hq
   rcases Aq.1 hq with hq|hq
   ·exact h.wide q hq
   ·simp at hq;subst hq;show(visF ns s []).2.length<=size;omega
theorem xT(gl:Int->Bool):∀(ns:List Int) (s:List Bool) (f:List Int) (b:Bool),(visG gl ns s f b).1=(visF ns s f).1/\(visG gl ns s f b).2.1=(visF ns s f).2
 | [],s,f,b=>⟨rfl,rfl⟩
 |n::ns,s,f,b=>by
  unfold visG visF
  split
  ·exact xT gl ns s f b
  ·exact xT gl ns _ _ _
theorem J8{I:Int->Prop}{gl:Int->Bool}{size:Nat}{s:List Bool}{st:List PStep}(h:PGood I size s st){ns:List Int}(hI:∀n∈ns,I n)(hr:∀n,I n->0<=n/\n<size)(p l:Int):
  PGood I size (visG gl ns s [] false).1 (addP st p l (visG gl ns s [] false).2.1)/\(addP st p l (visG gl ns s [] false).2.1).length+hM (visG gl ns s [] false).1<=st.length+hM s/\st.length<=(addP st p l (visG gl ns s [] false).2.1).length:=by
 obtain⟨e1,e2⟩:=xT gl ns s [] false;rw[e1,e2];exact aJN h hI hr p l
theorem OF{I:Int->Prop}{gl:Int->Bool}{size:Nat}{nx:Int->Int->List Int}{ns:List Int}{p:Int}(hr:∀n,I n->0<=n/\n<size)(hn:∀n∈ns,I n):∀(ls:List Int) (q:List Bool×List PStep),(∀n m,I n->m∈ls->∀y∈nx n m,I y)->PGood I size q.1 q.2->
  PGood I size (ltG nx gl ns p ls q).2.1 (ltG nx gl ns p ls q).2.2/\(ltG nx gl ns p ls q).2.2.length+hM (ltG nx gl ns p ls q).2.1<=q.2.length+hM q.1/\q.2.length<=(ltG nx gl ns p ls q).2.2.length
 | [],q,hx,h=>⟨h,Ad _,Ad _⟩
 |l::ls,q,hx,h=>by
  have hI:∀m∈flat nx ns l,I m:=by
   intro m hm;obtain⟨n,h1,h2⟩:=Du.1 hm;exact hx n l (hn n h1) Bl m h2
  obtain⟨g1,g2,g3⟩:=J8 (gl:=gl) h hI hr p l;unfold ltG
  split
  ·exact⟨g1,g2,g3⟩
  ·obtain⟨k1,k2,k3⟩:=OF (gl:=gl) (p:=p) hr hn ls (_,_) (fun n m h1 h2=>hx n m h1 (Bi _ h2)) g1;exact⟨k1,Bf k2 g2,Bf g3 k3⟩
def cA:List PStep->List D
 | []=>[]
 |p::l=>.int .i64 p.par::.int .i64 p.lt::.ivs p.ns.length (ints p.ns)::cA l
theorem uO:∀ {l:List PStep},(cA l).length=l.length*3
 | []=>rfl
 |p::l=>by simp only[cA,Ac,uO (l:=l)];omega
theorem aAu:∀ {a b:List PStep},cA a++cA b=cA (a++b)
 | [],b=>rfl
 |p::a,b=>by simp only[cA,At,aAu (a:=a)]
theorem aJb{l:List PStep}{p t:Int}{ns:List Int}{z:Nat}(h:z=ns.length):cA l++[.int .i64 p,.int .i64 t,.ivs z (ints ns)]=cA (l++[⟨p,t,ns⟩]):=by
 subst h;rw[<-aAu];rfl
theorem AD:∀ {l:List PStep} {k:Nat},(cA l).drop (k*3)=cA (l.drop k)
 |l,0=>by simp
 | [],k+1=>by simp[cA]
 |p::l,k+1=>by
  rw[Bz,Nat.one_mul];simp only[cA,Dh];exact AD
theorem NG{l:List PStep}{k:Nat}(h:l.length<=k):(cA l).take (k*3)=cA l:=Bx (by rw[uO];omega)
theorem VD{l:List PStep}{k:Nat}(h:k<l.length):(((cA l).drop (k*3+2)).map A.d).head? =some (.d (.ivs (l.getD k default).ns.length (ints (l.getD k default).ns))):=by
 rw[<-Bg,AD,bM h (d:=default)];rfl
def dI(l:List Bool):List D:=l.map .bool
theorem QL{l:List Bool}:(dI l).length=l.length:=by simp[dI]
theorem aAw{l:List Bool}{k:Nat}(h:k<l.length):(((dI l).drop k).map A.d).head? =some (.d (.bool (l.getD k false))):=by
 rw[Dm,Cs,dI,Bc,Ab,Ae h];rfl
theorem aCS{l:List Bool}{k:Nat}{v:Bool}(h:k<l.length):a6 (dI l) k [.bool v]=dI (l.set k v):=D0 _ l k v h
theorem S1{a b c:O}{h:H}{g e k:Nat}{l:List Bool}{v:Bool}(hk:k<l.length):iW env.P (a::b::c::.arr (dI l) e g::h) 4 (.ptr 3 g k) (.d (.bool v))=some (a::b::c::.arr (dI (l.set k v)) e g::h):=by
 rw[xX (id:=3) rfl aGp aKx rfl (by rw[QL];exact hk),aCS hk];rfl
theorem SD{a b c d:O}{h:H}{g e k:Nat}{l:List Bool}{v:Bool}(hk:k<l.length):iW env.P (a::b::c::d::.arr (dI l) e g::h) 4 (.ptr 4 g k) (.d (.bool v))=some (a::b::c::d::.arr (dI (l.set k v)) e g::h):=by
 rw[xX (id:=4) rfl aGp aKx rfl (by rw[QL];exact hk),aCS hk];rfl
theorem rng5:List.range 5=[0,1,2,3,4]:=rfl
theorem rng6:List.range 6=[0,1,2,3,4,5]:=rfl
theorem aEC:cY env.P 118=some false:=kr
theorem PE:type_of% (AI rng5 (AI rng6 (AI @uO (AI @NG (AI @VD @aAw))))):=
 ⟨rng5,rng6,@uO,@NG,@VD,@aAw⟩
theorem aLH(hn:3<=n)(hL:2^60<=L){I:Int->Prop}{gl:Int->Bool}{gf:FuncId}{caps:List D}{size:Nat}{p l:Int}{ns:List Int}{sc:List D}{se sg sn:Nat}(kc_g:∀ {R:Type} {n:Nat} {hq:H} {k:KA R} (x:Int),2<=n->I x->aU env (aA env L n) hq gf (nI x::caps.map A.d) k=k (.d (.bool (gl x))) hq)(hI:∀x∈ns,I x)(hr:∀x,I x->0<=x/\x<size)(hsz:size<=4294967296)(hnl:ns.length<=4294967290){k:KE R}:∀(j i m:Nat) (seen:List Bool) (f:List Int) (b:Bool) (len:Nat) (hi:i+j=ns.length) (hm:j<m) (hs:seen.length=size) (hf:f.length<=i) (hlen:len=f.length),
  aV env (aA env L n) L (5) (W8 (W2 [2])) Bz8 (mT 0) Bz26 m (nI p::nI l::Y1 (.ptr 0 0 0::.ptr 1 0 0::.ptr 2 0 0::Y2 (Y1 (.d (.bool false)::.sl 5 0 0 len::.d (.bool b)::Y2 (.d (.ivs ns.length (ints ns))::nI (ns.length)::nI i::Y32 (Y1 ([]))))))) [.box [.sl 3 0 0 size],.box [.d (.fn gf caps)],.box [.sl 4 sg 0 sn],.arr (dI seen) 1 0,.arr sc se sg,.arr (ints f) 1 0] k
  =k (.exit 0) (nI p::nI l::Y1 (.ptr 0 0 0::.ptr 1 0 0::.ptr 2 0 0::Y2 (Y1 (.d (.bool false)::.sl 5 0 0 (visG gl (ns.drop i) seen f b).2.1.length::.d (.bool (((visG gl (ns.drop i) seen f b).2.2)))::Y2 (.d (.ivs ns.length (ints ns))::nI (ns.length)::nI (ns.length)::Y32 (Y1 ([]))))))) [.box [.sl 3 0 0 size],.box [.d (.fn gf caps)],.box [.sl 4 sg 0 sn],.arr (dI (visG gl (ns.drop i) seen f b).1) 1 0,.arr sc se sg,.arr (ints (visG gl (ns.drop i) seen f b).2.1) 1 0]:=by
 intro j
 induction j with
 |zero=>
  intro i m seen f b len hi hm hs hf hlen;obtain _|m:=m;omega;obtain rfl:i=ns.length:=om;subst hlen
  simp-implicitDefEqProofs (maxSteps:=9^7) (disch:=try exact Dz) only[↓DN,↓kRet,UP,simprocAttr,PE,Al,cJ,cT,Tryz.f210];simp only[Cg,visG]
 |succ j ih=>
  intro i m seen f b len hi hm hs hf hlen;obtain _|m:=m;omega;subst hlen;have hc:(i:Int)<ns.length:=om;have hk:i<ns.length:=om;have hmem:ns.getD i 0∈ns:=by rw[Ab,Ae hk];exact Bd hk
  have hIx:=hI _ hmem;obtain⟨b1,b2⟩:=hr _ hIx;have b3:(ns.getD i 0).toNat<seen.length:=om;have e4:((i+1:Nat):Int)=(i:Int)+1:=om;rw[bM hk (d:=0)]
  cases hb:seen.getD (ns.getD i 0).toNat false with
  |true=>
   have ih':=ih (i+1) m seen f b f.length om om hs om rfl;rw[e4]at ih';clear ih hmem
   simp-implicitDefEqProofs (maxSteps:=9^7) (disch:=try exact Dz) only[↓DN,↓kRet,UP,simprocAttr,PE,hc,b1,b2,hb,↓ih',cJ,cT,Tryz.f210];simp only[visG,hb,if_true]
  |false=>
   cases b with
   |true=>
    have ih':=ih (i+1) m (seen.set (ns.getD i 0).toNat true) (f++[ns.getD i 0]) true (f.length+1) om om (by simp[hs]) (by simp;omega) sm;rw[e4]at ih';clear ih hmem
    simp-implicitDefEqProofs (maxSteps:=9^7) (disch:=try exact Dz) only[↓DN,↓kRet,UP,simprocAttr,PE,hc,b1,b2,hb,↓S1,↓ih',cJ,cT,Tryz.f210];simp only[visG,hb,Aj,if_false,Bool.true_or]
   |false=>
    cases hg:gl (ns.getD i 0)with
    |true=>
     have ih':=ih (i+1) m (seen.set (ns.getD i 0).toNat true) (f++[ns.getD i 0]) true (f.length+1) om om (by simp[hs]) (by simp;omega) sm;rw[e4]at ih';clear ih hmem
     simp-implicitDefEqProofs (maxSteps:=9^7) (disch:=try exact Dz) only[↓DN,↓kRet,UP,simprocAttr,PE,aEC,hc,b1,b2,hb,hg,↓S1,↓kc_g,↓ih',cJ,cT,Tryz.f210];simp only[visG,hb,hg,Aj,if_false,Bool.or_true]
    |false=>
     have ih':=ih (i+1) m (seen.set (ns.getD i 0).toNat true) (f++[ns.getD i 0]) false (f.length+1) om om (by simp[hs]) (by simp;omega) sm;rw[e4]at ih';clear ih hmem
     simp-implicitDefEqProofs (maxSteps:=9^7) (disch:=try exact Dz) only[↓DN,↓kRet,UP,simprocAttr,PE,aEC,hc,b1,b2,hb,hg,↓S1,↓kc_g,↓ih',cJ,cT,Tryz.f210];simp only[visG,hb,hg,Aj,if_false,Bool.or_false]
theorem aKk(hn:3<=n)(hL:2^60<=L){I:Int->Prop}{gl:Int->Bool}{gf:FuncId}{caps:List D}{size:Nat}{p l:Int}{ns:List Int}{sc:List D}{se sg sn:Nat}(kc_g:∀ {R:Type} {n:Nat} {hq:H} {k:KA R} (x:Int),2<=n->I x->aU env (aA env L n) hq gf (nI x::caps.map A.d) k=k (.d (.bool (gl x))) hq)(hI:∀x∈ns,I x)(hr:∀x,I x->0<=x/\x<size)(hsz:size<=4294967296)(hnl:ns.length<=4294967290){k:KE R}:∀(j i m:Nat) (seen:List Bool) (f:List Int) (b:Bool) (len:Nat) (hi:i+j=ns.length) (hm:j<m) (hs:seen.length=size) (hf:f.length<=i) (hlen:len=f.length),
  aV env (aA env L n) L (6) (W8 (W2 [2])) Bz8 (mT 0) Bz26 m (nI p::nI l::Y1 (.ptr 0 0 0::.ptr 1 0 0::.ptr 2 0 0::Y2 (Y1 (.d (.bool false)::.sl 6 0 0 len::.d (.bool b)::Y2 (.sl 3 0 0 ns.length::nI (ns.length)::nI i::Y32 (Y1 ([]))))))) [.box [.sl 4 0 0 size],.box [.d (.fn gf caps)],.box [.sl 5 sg 0 sn],.arr (ints ns) 1 0,.arr (dI seen) 1 0,.arr sc se sg,.arr (ints f) 1 0] k
  =k (.exit 0) (nI p::nI l::Y1 (.ptr 0 0 0::.ptr 1 0 0::.ptr 2 0 0::Y2 (Y1 (.d (.bool false)::.sl 6 0 0 (visG gl (ns.drop i) seen f b).2.1.length::.d (.bool (((visG gl (ns.drop i) seen f b).2.2)))::Y2 (.sl 3 0 0 ns.length::nI (ns.length)::nI (ns.length)::Y32 (Y1 ([]))))))) [.box [.sl 4 0 0 size],.box [.d (.fn gf caps)],.box [.sl 5 sg 0 sn],.arr (ints ns) 1 0,.arr (dI (visG gl (ns.drop i) seen f b).1) 1 0,.arr sc se sg,.arr (ints (visG gl (ns.drop i) seen f b).2.1) 1 0]:=by
 intro j
 induction j with
 |zero=>
  intro i m seen f b len hi hm hs hf hlen;obtain _|m:=m;omega;obtain rfl:i=ns.length:=om;subst hlen
  simp-implicitDefEqProofs (maxSteps:=9^7) (disch:=try exact Dz) only[↓DN,↓kRet,UP,simprocAttr,PE,Al,cJ,cT,Tryz.f210];simp only[Cg,visG]
 |succ j ih=>
  intro i m seen f b len hi hm hs hf hlen;obtain _|m:=m;omega;subst hlen;have hc:(i:Int)<ns.length:=om;have hk:i<ns.length:=om;have hmem:ns.getD i 0∈ns:=by rw[Ab,Ae hk];exact Bd hk
  have hIx:=hI _ hmem;obtain⟨b1,b2⟩:=hr _ hIx;have b3:(ns.getD i 0).toNat<seen.length:=om;have e4:((i+1:Nat):Int)=(i:Int)+1:=om;rw[bM hk (d:=0)]
  cases hb:seen.getD (ns.getD i 0).toNat false with
  |true=>
   have ih':=ih (i+1) m seen f b f.length om om hs om rfl;rw[e4]at ih';clear ih hmem
   simp-implicitDefEqProofs (maxSteps:=9^7) (disch:=try exact Dz) only[↓DN,↓kRet,UP,simprocAttr,PE,hc,b1,b2,hb,↓ih',cJ,cT,Tryz.f210];simp only[visG,hb,if_true]
  |false=>
   cases b with
   |true=>
    have ih':=ih (i+1) m (seen.set (ns.getD i 0).toNat true) (f++[ns.getD i 0]) true (f.length+1) om om (by simp[hs]) (by simp;omega) sm;rw[e4]at ih';clear ih hmem
    simp-implicitDefEqProofs (maxSteps:=9^7) (disch:=try exact Dz) only[↓DN,↓kRet,UP,simprocAttr,PE,hc,b1,b2,hb,↓SD,↓ih',cJ,cT,Tryz.f210];simp only[visG,hb,Aj,if_false,Bool.true_or]
   |false=>
    cases hg:gl (ns.getD i 0)with
    |true=>
     have ih':=ih (i+1) m (seen.set (ns.getD i 0).toNat true) (f++[ns.getD i 0]) true (f.length+1) om om (by simp[hs]) (by simp;omega) sm;rw[e4]at ih';clear ih hmem
     simp-implicitDefEqProofs (maxSteps:=9^7) (disch:=try exact Dz) only[↓DN,↓kRet,UP,simprocAttr,PE,aEC,hc,b1,b2,hb,hg,↓SD,↓kc_g,↓ih',cJ,cT,Tryz.f210];simp only[visG,hb,hg,Aj,if_false,Bool.or_true]
    |false=>
     have ih':=ih (i+1) m (seen.set (ns.getD i 0).toNat true) (f++[ns.getD i 0]) false (f.length+1) om om (by simp[hs]) (by simp;omega) sm;rw[e4]at ih';clear ih hmem
     simp-implicitDefEqProofs (maxSteps:=9^7) (disch:=try exact Dz) only[↓DN,↓kRet,UP,simprocAttr,PE,aEC,hc,b1,b2,hb,hg,↓SD,↓kc_g,↓ih',cJ,cT,Tryz.f210];simp only[visG,hb,hg,Aj,if_false,Bool.or_false]
theorem aOl(hn:4<=n)(hL:2^60<=L){I:Int->Prop}{gl:Int->Bool}{gf:FuncId}{caps:List D}{size:Nat}{p l:Int}{ns:List Int}(kc_g:∀ {R:Type} {n:Nat} {hq:H} {k:KA R} (x:Int),2<=n->I x->aU env (aA env L n) hq gf (nI x::caps.map A.d) k=k (.d (.bool (gl x))) hq)(hI:∀x∈ns,I x)(hr:∀x,I x->0<=x/\x<size)(hsz:size<=4294967290)(hnl:ns.length<=4294967290)(seen:List Bool)(hs:seen.length=size)(r:List Bool×List Int×Bool)(he:visG gl ns seen [] false=r)(hpos:(0:Int)<r.2.1.length):
  aA env L n 210 [nI p,nI l,.d (.ivs ns.length (ints ns)),.ptr 0 0 0,.ptr 1 0 0,.ptr 2 0 0] [.box [.sl 3 0 0 size],.box [.d (.fn gf caps)],.box [.sl 4 0 0 0],.arr (dI seen) 1 0,.arr [] 0 0]
  =some (.d (.bool r.2.2),[.box [.sl 3 0 0 size],.box [.d (.fn gf caps)],.box [.sl 4 1 0 1],.arr (dI r.1) 1 0,.arr (cA [⟨p,l,r.2.1⟩]) 3 1]):=by
 have loop_c:=fun {R:Type} {n:Nat} (hn:3<=n) {k:KE R}=> @aLH R L n hn hL I gl gf caps size p l ns [] 0 0 0 (fun {R n hq k}=>kc_g) hI hr om hnl k ns.length 0 L seen [] false 0 om om hs sm rfl;simp only[Ay,he,i7,Av]at loop_c
 have hb:r.2.1.length<=size:=by
  have h1:=G4 ns seen [] fun x hx=>by rw[hs];exact hr x (hI x hx)
  have h2:=RX seen;rw[<-(xT gl ns seen [] false).1,<-(xT gl ns seen [] false).2,he]at h1;simp only[Aa,Af]at h1;omega
 have et:(ints r.2.1).take r.2.1.length=ints r.2.1:=fJ (Ad _);obtain _|n:=n;omega
 simp-implicitDefEqProofs (maxSteps:=9^7) (disch:=try exact Dz) only[↓DN,↓kAsg,↓kRet,UP,simprocAttr,PE,↓loop_c,hpos,et,s5,n4,Tryz.f210]<;>rfl
theorem aOn(hn:4<=n)(hL:2^60<=L){I:Int->Prop}{gl:Int->Bool}{gf:FuncId}{caps:List D}{size:Nat}{p l:Int}{ns:List Int}(kc_g:∀ {R:Type} {n:Nat} {hq:H} {k:KA R} (x:Int),2<=n->I x->aU env (aA env L n) hq gf (nI x::caps.map A.d) k=k (.d (.bool (gl x))) hq)(hI:∀x∈ns,I x)(hr:∀x,I x->0<=x/\x<size)(hsz:size<=4294967290)(hnl:ns.length<=4294967290)(seen:List Bool)(hs:seen.length=size)(st:List PStep)(hst:st.length<=4294967290)(r:List Bool×List Int×Bool)(he:visG gl ns seen [] false=r):
  aA env L n 210 [nI p,nI l,.sl 3 0 0 ns.length,.ptr 0 0 0,.ptr 1 0 0,.ptr 2 0 0] [.box [.sl 4 0 0 size],.box [.d (.fn gf caps)],.box [.sl 5 0 0 st.length],.arr (ints ns) 1 0,.arr (dI seen) 1 0,.arr (cA st) 3 0]
  =some (.d (.bool r.2.2),[.box [.sl 4 0 0 size],.box [.d (.fn gf caps)],.box [.sl 5 (if r.2.1=[]then 0 else 1) 0 (addP st p l r.2.1).length],.arr (ints ns) 1 0,.arr (dI r.1) 1 0,.arr (cA (addP st p l r.2.1)) 3 (if r.2.1=[]then 0 else 1)]):=by
 have loop_c:=fun {R:Type} {n:Nat} (hn:3<=n) {k:KE R}=> @aKk R L n hn hL I gl gf caps size p l ns (cA st) 3 0 st.length (fun {R n hq k}=>kc_g) hI hr om hnl k ns.length 0 L seen [] false 0 om om hs sm rfl;simp only[Ay,he,i7,Av]at loop_c
 have hb:r.2.1.length<=size:=by
  have h1:=G4 ns seen [] fun x hx=>by rw[hs];exact hr x (hI x hx)
  have h2:=RX seen;rw[<-(xT gl ns seen [] false).1,<-(xT gl ns seen [] false).2,he]at h1;simp only[Aa,Af]at h1;omega
 have et:(ints r.2.1).take r.2.1.length=ints r.2.1:=fJ (Ad _);have es:(cA st).take (st.length*3)=cA st:=NG (Ad _);unfold addP
 by_cases hf:r.2.1=[]
 ·rw[if_pos hf,if_pos hf];have hz:r.2.1.length=0:=by rw[hf];rfl
  rw[hz]at loop_c;obtain _|n:=n;omega
  simp-implicitDefEqProofs (maxSteps:=9^7) (disch:=try exact Dz) only[↓DN,↓kAsg,↓kRet,UP,simprocAttr,PE,↓loop_c,Av,Al,s5,n4,Tryz.f210]
 ·rw[if_neg hf,if_neg hf];have hpos:(0:Int)<r.2.1.length:=by have:=Eb.2 hf;omega
  obtain _|n:=n;omega
  simp-implicitDefEqProofs (maxSteps:=9^7) (disch:=try exact Dz) only[↓DN,↓kAsg,↓kRet,UP,simprocAttr,PE,↓loop_c,hpos,et,es,aJb,s5,n4,Tryz.f210]
end
end Ev
end Go.Proofs.YtahbdkmimmnadaaGreatDoor
