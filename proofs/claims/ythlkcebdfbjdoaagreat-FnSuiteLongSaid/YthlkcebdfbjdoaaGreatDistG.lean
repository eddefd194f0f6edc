/-
  A search that visits words in shortlex order finds the first word that leads to a goal: plain laws.
-/
import Derived.Test.YthlkcebdfbjdoaaGreatLeast
import Derived.Test.YthlkcebdfbjdoaaGreatDrawR
import Derived.Test.YthlkcebdfbjdoaaGreatAutoL
import Derived.Test.YthlkcebdfbjdoaaGreatSortLayX
import Derived.Test.YthlkcebdfbjdoaaGreatMemD
set_option linter.unusedSimpArgs false
set_option linter.unusedVariables false
set_option maxRecDepth 8000
set_option maxHeartbeats 4000000
namespace Go.Proofs.YthlkcebdfbjdoaaGreat
namespace Ev
section
structure PStep where
 par:Int
 lt:Int
 ns:List Int
instance:Inhabited PStep:=⟨⟨0,0,[]⟩⟩
def visG(gl:Int->Bool):List Int->List Bool->List Int->Bool->List Bool×List Int×Bool
 | [],s,f,b=>(s,f,b)
 |n::ns,s,f,b=>if s.getD n.toNat false=true then visG gl ns s f b else visG gl ns (s.set n.toNat true) (f++[n]) (b||gl n)
def addP(st:List PStep)(p l:Int)(f:List Int):List PStep:=if f=[]then st else st++[⟨p,l,f⟩]
def flat(nx:Int->Int->List Int)(ns:List Int)(l:Int):List Int:=ns.flatMap fun n=>nx n l
def ltG(nx:Int->Int->List Int)(gl:Int->Bool)(ns:List Int)(p:Int):List Int->List Bool×List PStep->Bool×List Bool×List PStep
 | [],q=>(false,q)
 |l::ls,q=>
  if(visG gl (flat nx ns l) q.1 [] false).2.2=true then(true,(visG gl (flat nx ns l) q.1 [] false).1,addP q.2 p l (visG gl (flat nx ns l) q.1 [] false).2.1)
  else ltG nx gl ns p ls ((visG gl (flat nx ns l) q.1 [] false).1,addP q.2 p l (visG gl (flat nx ns l) q.1 [] false).2.1)
def outG(nx:Int->Int->List Int)(gl:Int->Bool)(ls:List Int):Nat->Nat->List Bool×List PStep->Bool×List Bool×List PStep
 |0,_,q=>(false,q)
 |j+1,i,q=>if i<q.2.length then
   (if(ltG nx gl (q.2.getD i default).ns i ls q).1=true then ltG nx gl (q.2.getD i default).ns i ls q
    else outG nx gl ls j (i+1) (ltG nx gl (q.2.getD i default).ns i ls q).2)
  else(false,q)
def fZ(st:List PStep):Nat->Nat->List Int
 |0,_=>[]
 |j+1,i=>if 0<=(st.getD i default).par then fZ st j (st.getD i default).par.toNat++[(st.getD i default).lt]else []
def BF(nx:Int->Int->List Int)(gl:Int->Bool)(ls start:List Int)(size:Nat):List Int×Bool:=
 if(visG gl start (List.replicate size false) [] false).2.2=true then([],true)
 else if(outG nx gl ls (size+1) 0 ((visG gl start (List.replicate size false) [] false).1,addP [] (-1) 0 (visG gl start (List.replicate size false) [] false).2.1)).1=true then
  (fZ (outG nx gl ls (size+1) 0 ((visG gl start (List.replicate size false) [] false).1,addP [] (-1) 0 (visG gl start (List.replicate size false) [] false).2.1)).2.2
   (outG nx gl ls (size+1) 0 ((visG gl start (List.replicate size false) [] false).1,addP [] (-1) 0 (visG gl start (List.replicate size false) [] false).2.1)).2.2.length
   ((outG nx gl ls (size+1) 0 ((visG gl start (List.replicate size false) [] false).1,addP [] (-1) 0 (visG gl start (List.replicate size false) [] false).2.1)).2.2.length-1),true)
 else([],false)
def Sn(s:List Bool)(n:Int):Prop:=s.getD n.toNat false=true
theorem aN7{s:List Bool}{n m:Int}(h0:0<=n)(h1:n<s.length)(hm:0<=m):Sn (s.set n.toNat true) m↔m=n\/Sn s m:=by
 unfold Sn;rw[Aa,Aa,Cg]
 by_cases h:n.toNat=m.toNat
 ·have:m=n:=by omega
  subst this;simp[show m.toNat<s.length by omega]
 ·have:m≠n:=by omega
  simp[h,this]
structure Vis(gl:Int->Bool)(ns:List Int)(s:List Bool)(f:List Int)(b:Bool)(r:List Bool×List Int×Bool):Prop where
 seen:∀m,0<=m->(Sn r.1 m↔Sn s m\/m∈ns)
 new:∀m,m∈r.2.1↔m∈f\/(m∈ns/\¬Sn s m)
 hit:r.2.2=true↔b=true\/∃m,m∈ns/\¬Sn s m/\gl m=true
 cnt:r.2.1.length+r.1.count false=f.length+s.count false
 len:r.1.length=s.length
theorem YS:∀ {s:List Bool} {k:Nat},s.getD k false=false->k<s.length->(s.set k true).count false+1=s.count false
 | [],k,h,hk=>by simp at hk
 |b::s,0,h,hk=>by
  simp at h;subst h;simp
 |b::s,k+1,h,hk=>by
  have ih:=YS (s:=s) (k:=k) (by simpa using h) (by simpa using hk);simp only[Bl,List.count_cons];omega
theorem ZY(gl:Int->Bool):∀(ns:List Int) (s:List Bool) (f:List Int) (b:Bool),(∀n∈ns,0<=n/\n<s.length)->Vis gl ns s f b (visG gl ns s f b)
 | [],s,f,b,_=>⟨by simp[visG],by simp[visG],by simp[visG],rfl,rfl⟩
 |n::ns,s,f,b,h=>by
  have h2:=h n Bi;unfold visG
  split
  ·rename_i h1
   have ih:=ZY gl ns s f b fun m hm=>h m (Be _ hm);refine⟨fun m hm=> ?_,fun m=> ?_,?_,ih.cnt,ih.len⟩
   ·rw[ih.seen m hm]
    constructor
    ·rintro(k|k)
     ·exact .inl k
     ·exact .inr (Be _ k)
    ·rintro(k|k)
     ·exact .inl k
     ·rcases At.1 k with rfl|k
      ·exact .inl h1
      ·exact .inr k
   ·rw[ih.new m]
    constructor
    ·rintro(k|⟨k,k2⟩)
     ·exact .inl k
     ·exact .inr ⟨Be _ k,k2⟩
    ·rintro(k|⟨k,k2⟩)
     ·exact .inl k
     ·rcases At.1 k with rfl|k
      ·exact(k2 h1).elim
      ·exact .inr ⟨k,k2⟩
   ·rw[ih.hit]
    constructor
    ·rintro(k|⟨m,k,k2⟩)
     ·exact .inl k
     ·exact .inr ⟨m,Be _ k,k2⟩
    ·rintro(k|⟨m,k,k2⟩)
     ·exact .inl k
     ·rcases At.1 k with rfl|k
      ·exact(k2.1 h1).elim
      ·exact .inr ⟨m,k,k2⟩
  ·rename_i h1
   have ih:=ZY gl ns (s.set n.toNat true) (f++[n]) (b||gl n) fun m hm=>by simpa using h m (Be _ hm)
   have hpos:∀m∈ns,0<=m:=fun m hm=>(h m (Be _ hm)).1;have hs:=fun {m:Int} (hm:0<=m)=>aN7 (s:=s) (n:=n) (m:=m) h2.1 h2.2 hm;refine⟨fun m hm=> ?_,fun m=> ?_,?_,?_,?_⟩
   ·rw[ih.seen m hm,hs hm,At]
    constructor
    ·rintro((k|k)|k)
     ·exact .inr (.inl k)
     ·exact .inl k
     ·exact .inr (.inr k)
    ·rintro(k|k|k)
     ·exact .inl (.inr k)
     ·exact .inl (.inl k)
     ·exact .inr k
   ·rw[ih.new m,Al,Bo,At]
    constructor
    ·rintro((k|rfl)|⟨k,k2⟩)
     ·exact .inl k
     ·exact .inr ⟨.inl rfl,h1⟩
     ·rw[hs (hpos m k)]at k2;exact .inr ⟨.inr k,fun h3=>k2 (.inr h3)⟩
    ·rintro(k|⟨rfl|k,k2⟩)
     ·exact .inl (.inl k)
     ·exact .inl (.inr rfl)
     ·by_cases hmn:m=n
      ·exact .inl (.inr hmn)
      ·refine .inr ⟨k,fun h3=> ?_⟩;rw[hs (hpos m k)]at h3
       rcases h3 with h3|h3
       ·exact hmn h3
       ·exact k2 h3
   ·rw[ih.hit,Bool.or_eq_true]
    constructor
    ·rintro((k|k)|⟨m,k,k2,k3⟩)
     ·exact .inl k
     ·exact .inr ⟨n,Bi,h1,k⟩
     ·rw[hs (hpos m k)]at k2;exact .inr ⟨m,Be _ k,fun h3=>k2 (.inr h3),k3⟩
    ·rintro(k|⟨m,k,k2,k3⟩)
     ·exact .inl (.inl k)
     ·by_cases hmn:m=n
      ·subst hmn;exact .inl (.inr k3)
      ·rcases At.1 k with k|k
       ·exact(hmn k).elim
       ·refine .inr ⟨m,k,fun h3=> ?_,k3⟩;rw[hs (hpos m k)]at h3
        rcases h3 with h3|h3
        ·exact hmn h3
        ·exact k2 h3
   ·have:=YS (s:=s) (k:=n.toNat) (by simpa using h1) (by omega);have hc:=ih.cnt;simp only[Af,Ad,Ac]at hc;omega
   ·have:=ih.len
    simpa using this
section
variable{nx:Int->Int->List Int}{gl:Int->Bool}{ls start:List Int}{size:Nat}
def Asc(l:List Int):Prop:=l.Pairwise (·<·)
structure Mid(nx:Int->Int->List Int)(gl:Int->Bool)(ls start:List Int)(size:Nat)(i:Nat)(ds:List Int)(s:List Bool)(st:List PStep)(W:Nat->List Int):Prop where
 len:s.length=size
 room:st.length+s.count false<=size
 wide:∀k,k<st.length->(st.getD k default).ns.length<=size
 par0:∀k,k<st.length->((st.getD k default).par<0/\W k=[])\/(∃p:Nat,(st.getD k default).par=p/\p<k/\(p<i\/p=i/\(st.getD k default).lt∈ds)/\W k=W p++[(st.getD k default).lt])
 nodes:∀k,k<st.length->∀n∈(st.getD k default).ns,qR nx ls start (W k) n/\Sn s n/\(0<=n/\n<size)
 all:∀n,0<=n->Sn s n->∃k,k<st.length/\n∈(st.getD k default).ns
 asc:∀j k,j<k->k<st.length->slt (W j) (W k)
 least:∀k,k<st.length->∀n∈(st.getD k default).ns,∀w,qR nx ls start w n->¬slt w (W k)
 none:∀n,0<=n->Sn s n->gl n=false
 begun:∀n∈start,Sn s n
 done:∀k,k<st.length->∀p∈(st.getD k default).ns,∀l∈ls,(k<i\/k=i/\l∈ds)->∀m∈nx p l,Sn s m
theorem E8{n:Int}:qR nx ls start [] n↔n∈start:=by
 unfold qR Path
 constructor
 ·rintro⟨s,h,rfl⟩;exact h
 ·intro h;exact⟨n,h,rfl⟩
theorem KM{w:List Int}{l n:Int}:qR nx ls start (w++[l]) n↔l∈ls/\∃m,qR nx ls start w m/\n∈nx m l:=by
 unfold qR
 constructor
 ·rintro⟨s,h,k⟩;obtain⟨h1,m,h2,h3⟩:=aB9.1 k;exact⟨h1,m,⟨s,h,h2⟩,h3⟩
 ·rintro⟨h1,m,⟨s,h,h2⟩,h3⟩;exact⟨s,h,aB9.2 ⟨h1,m,h2,h3⟩⟩
theorem JV(w:List Int):w=[]\/∃u l,w=u++[l]:=by
 rcases List.eq_nil_or_concat w with h|⟨u,l,h⟩
 ·exact .inl h
 ·exact .inr ⟨u,l,by simpa using h⟩
theorem aHB{i:Nat}{ds:List Int}{l:Int}{rs:List Int}{s:List Bool}{st:List PStep}{W:Nat->List Int}(hm:Mid nx gl ls start size i ds s st W)(hi:i<st.length)(hls:ls=ds++l::rs)(ha:Asc ls)(hnx:∀p c:Int,0<=p->p<size->c∈ls->∀m∈nx p c,0<=m/\m<size)(hst:∀n∈start,0<=n/\n<size):
  ∀(q:Nat) (w:List Int),w.length=q->slt w (W i++[l])->∀n,qR nx ls start w n->Sn s n/\(0<=n/\n<size):=by
 intro q
 induction q with
 |zero=>
  intro w hw hlt n hc;have:w=[]:=Bx.1 hw;subst this;have:=E8.1 hc;exact⟨hm.begun n this,hst n this⟩
 |succ q ih=>
  intro w hw hlt n hc
  rcases JV w with rfl|⟨u,c,rfl⟩
  ·simp at hw
  obtain⟨hcl,p,hp,hn⟩:=KM.1 hc;have hul:u.length=q:=by simpa using hw
  have hu:slt u (W i++[l]):=GC (.inl (by simp)) hlt;obtain⟨hps,hpr⟩:=ih u hul hu p hp;refine⟨?_,hnx p c hpr.1 hpr.2 hcl n hn⟩;obtain⟨k,hk,hpk⟩:=hm.all p hpr.1 hps;have hle:=hm.least k hk p hpk u hp;have h2:=J7.1 hlt;refine hm.done k hk p hpk c hcl ?_ n hn
  rcases Da k i with h|h|h
  ·exact .inl h
  ·subst h;refine .inr ⟨rfl,?_⟩
   rcases h2 with h2|⟨_,h2⟩
   ·exact(hle h2).elim
   ·rw[hls]at hcl ha
    rcases Al.1 hcl with h3|h3
    ·exact h3
    ·exfalso
     rcases At.1 h3 with h4|h4
     ·omega
     ·have h5:=List.pairwise_append.1 ha;have:=(List.pairwise_cons.1 h5.2.1).1 c h4;omega
  ·exfalso;have h3:=hm.asc i k h hk
   rcases h2 with h2|⟨h2,_⟩
   ·exact hle (GC h2 h3)
   ·subst h2;exact hle h3
theorem j6{α:Type}{l m:List α}{i:Nat}{d:α}(h:i<l.length):(l++m).getD i d=l.getD i d:=by
 rw[Aa,Aa,Ba h]
theorem PM{α:Type}{l:List α}{x d:α}:(l++[x]).getD l.length d=x:=by
 rw[Aa,Bh (Ab _)];simp
theorem aMJ{i:Nat}{ds:List Int}{s:List Bool}{st:List PStep}{W:Nat->List Int}(hm:Mid nx gl ls start size i ds s st W):∀(j k:Nat),k<j->k<st.length->fZ st j k=W k:=by
 intro j
 induction j with
 |zero=>intro k hk;omega
 |succ j ih=>
  intro k hk hl;unfold fZ
  rcases hm.par0 k hl with⟨h1,h2⟩|⟨p,h1,h2,_,h3⟩
  ·rw[if_neg (by omega),h2]
  ·rw[if_pos (by omega),h1,Ct,ih p (by omega) (by omega),h3]
theorem aK1{i:Nat}{ds:List Int}{l:Int}{rs:List Int}{s:List Bool}{st:List PStep}{W:Nat->List Int}(hm:Mid nx gl ls start size i ds s st W)(hi:i<st.length)(hls:ls=ds++l::rs)(ha:Asc ls)(hnx:∀p c:Int,0<=p->p<size->c∈ls->∀m∈nx p c,0<=m/\m<size)(hst:∀n∈start,0<=n/\n<size):
  ((visG gl (flat nx (st.getD i default).ns l) s [] false).2.2=true->Q1 (Hits nx ls start gl) (W i++[l])/\(visG gl (flat nx (st.getD i default).ns l) s [] false).2.1≠[])/\
  ((visG gl (flat nx (st.getD i default).ns l) s [] false).2.2≠true->∃W',Mid nx gl ls start size i (ds++[l]) (visG gl (flat nx (st.getD i default).ns l) s [] false).1 (addP st i l (visG gl (flat nx (st.getD i default).ns l) s [] false).2.1) W'):=by
 have hll:l∈ls:=by rw[hls];simp
 have hreach:∀n∈flat nx (st.getD i default).ns l,qR nx ls start (W i++[l]) n/\(0<=n/\n<size):=by
  intro n hn;obtain⟨p,hp,hpn⟩:=Dq.1 hn;obtain⟨h1,_,h3⟩:=hm.nodes i hi p hp;exact⟨KM.2 ⟨hll,p,h1,hpn⟩,hnx p l h3.1 h3.2 hll n hpn⟩
 have hv:=ZY gl (flat nx (st.getD i default).ns l) s [] false fun n hn=>by rw[hm.len];exact(hreach n hn).2
 have hbef:=fun w=>aHB hm hi hls ha hnx hst w.length w rfl;generalize hns:flat nx (st.getD i default).ns l=ns at *;generalize hr:visG gl ns s [] false=r at *;obtain⟨s2,f,b⟩:=r;have v1:=hv.seen;have v2:∀m,m∈f↔m∈ns/\¬Sn s m:=fun m=>by have:=hv.new m;simpa using this
 have v3:b=true↔∃m,m∈ns/\¬Sn s m/\gl m=true:=by have:=hv.hit;simpa using this
 have v4:f.length+s2.count false=s.count false:=by have:=hv.cnt;simpa using this
 have v5:s2.length=s.length:=hv.len;simp only at v1|-
 constructor
 ·intro hb;obtain⟨m,h1,h2,h3⟩:=v3.1 hb;refine⟨⟨⟨m,(hreach m h1).1,h3⟩,?_⟩,?_⟩
  ·rintro x ⟨u,hu,hg⟩ hlt;obtain⟨k1,k2⟩:=hbef x hlt u hu;rw[hm.none u k2.1 k1]at hg;cases hg
  ·intro hf;have:=(v2 m).2 ⟨h1,h2⟩;rw[hf]at this;cases this
 ·intro hb
  have hnone:∀n,0<=n->Sn s2 n->gl n=false:=by
   intro n hn hs
   rcases(v1 n hn).1 hs with h|h
   ·exact hm.none n hn h
   ·by_cases hs0:Sn s n
    ·exact hm.none n hn hs0
    ·cases hg:gl n with
     |false=>rfl
     |true=>exact(hb (v3.2 ⟨n,h,hs0,hg⟩)).elim
  have hsn:∀n,0<=n->Sn s n->Sn s2 n:=fun n hn h=>(v1 n hn).2 (.inl h)
  have hdone:∀p∈(st.getD i default).ns,∀m∈nx p l,Sn s2 m:=by
   intro p hp m hmm;have:m∈ns:=by rw[<-hns];exact Dq.2 ⟨p,hp,hmm⟩
   exact(v1 m (hreach m this).2.1).2 (.inr this)
  unfold addP
  by_cases hf:f=[]
  ·rw[if_pos hf];subst hf;refine⟨W,⟨by rw[v5,hm.len],by have:=hm.room;simp at v4;omega,hm.wide,?_,?_,?_,hm.asc,hm.least,hnone,?_,?_⟩⟩
   ·intro k hk
    rcases hm.par0 k hk with h|⟨p,h1,h2,h3,h4⟩
    ·exact .inl h
    ·refine .inr ⟨p,h1,h2,?_,h4⟩
     rcases h3 with h3|⟨h3,h5⟩
     ·exact .inl h3
     ·exact .inr ⟨h3,List.mem_append_left _ h5⟩
   ·intro k hk n hn;obtain⟨h1,h2,h3⟩:=hm.nodes k hk n hn;exact⟨h1,hsn n h3.1 h2,h3⟩
   ·intro n hn hs
    rcases(v1 n hn).1 hs with h|h
    ·exact hm.all n hn h
    ·by_cases hs0:Sn s n
     ·exact hm.all n hn hs0
     ·have:=(v2 n).2 ⟨h,hs0⟩;cases this
   ·intro n hn;exact hsn n (hst n hn).1 (hm.begun n hn)
   ·intro k hk p hp c hc hor m hmm;have hpr:=(hm.nodes k hk p hp).2.2;have hmr:=hnx p c hpr.1 hpr.2 hc m hmm
    rcases hor with h|⟨h,h2⟩
    ·exact hsn m hmr.1 (hm.done k hk p hp c hc (.inl h) m hmm)
    ·rcases Al.1 h2 with h3|h3
     ·exact hsn m hmr.1 (hm.done k hk p hp c hc (.inr ⟨h,h3⟩) m hmm)
     ·simp at h3;subst h3;subst h;exact hdone p hp m hmm
  ·rw[if_neg hf];have hfl:0<f.length:=Dt.2 hf;refine⟨fun k=>if k=st.length then W i++[l]else W k,?_⟩;have hold:∀k,k<st.length->(st++[(⟨i,l,f⟩:PStep)]).getD k default=st.getD k default:=fun k hk=>j6 hk;have hnew:(st++[(⟨i,l,f⟩:PStep)]).getD st.length default=⟨i,l,f⟩:=PM;have hlen:(st++[(⟨i,l,f⟩:PStep)]).length=st.length+1:=by simp
   have hmax:∀k,k<st.length->slt (W k) (W i++[l]):=by
    intro k hk
    rcases hm.par0 k hk with⟨_,h⟩|⟨p,h1,h2,h3,h4⟩
    ·rw[h];exact .inl (by simp)
    ·rw[h4,J7]
     rcases h3 with h3|⟨h3,h5⟩
     ·exact .inl (hm.asc p i h3 hi)
     ·subst h3;refine .inr ⟨rfl,?_⟩;rw[hls]at ha;have h6:=List.pairwise_append.1 ha;exact h6.2.2 _ h5 l Bi
   refine⟨by rw[v5,hm.len],by have:=hm.room;rw[hlen];omega,?_,?_,?_,?_,?_,?_,hnone,?_,?_⟩
   ·intro k hk;rw[hlen]at hk
    by_cases h:k<st.length
    ·rw[hold k h];exact hm.wide k h
    ·obtain rfl:k=st.length:=by omega
     rw[hnew];have:=List.count_le_length (a:=false) (l:=s);have:=hm.len;show f.length<=size;omega
   ·intro k hk;rw[hlen]at hk
    by_cases h:k<st.length
    ·rw[hold k h];simp only[show k≠st.length by omega,if_false]
     rcases hm.par0 k h with h0|⟨p,h1,h2,h3,h4⟩
     ·exact .inl h0
     ·refine .inr ⟨p,h1,h2,?_,?_⟩
      ·rcases h3 with h3|⟨h3,h5⟩
       ·exact .inl h3
       ·exact .inr ⟨h3,List.mem_append_left _ h5⟩
      ·rw[if_neg (by omega)];exact h4
    ·obtain rfl:k=st.length:=by omega
     rw[hnew];refine .inr ⟨i,rfl,hi,.inr ⟨rfl,by simp⟩,?_⟩;simp only[if_true];rw[if_neg (by omega)]
   ·intro k hk n hn;rw[hlen]at hk
    by_cases h:k<st.length
    ·rw[hold k h]at hn;obtain⟨h1,h2,h3⟩:=hm.nodes k h n hn;simp only[show k≠st.length by omega,if_false];exact⟨h1,hsn n h3.1 h2,h3⟩
    ·obtain rfl:k=st.length:=by omega
     rw[hnew]at hn;have h1:=((v2 n).1 hn).1;have h2:=hreach n h1;simp only[if_true];exact⟨h2.1,(v1 n h2.2.1).2 (.inr h1),h2.2⟩
   ·intro n hn hs
    by_cases hs0:Sn s n
    ·obtain⟨k,hk,h1⟩:=hm.all n hn hs0;exact⟨k,by omega,by rw[hold k hk];exact h1⟩
    ·rcases(v1 n hn).1 hs with h|h
     ·exact(hs0 h).elim
     ·exact⟨st.length,by omega,by rw[hnew];exact(v2 n).2 ⟨h,hs0⟩⟩
   ·intro j k hjk hk;rw[hlen]at hk
    by_cases h:k<st.length
    ·simp only[show k≠st.length by omega,show j≠st.length by omega,if_false];exact hm.asc j k hjk h
    ·obtain rfl:k=st.length:=by omega
     simp only[show j≠st.length by omega,if_false,if_true];exact hmax j hjk
   ·intro k hk n hn w hw;rw[hlen]at hk
    by_cases h:k<st.length
    ·rw[hold k h]at hn;simp only[show k≠st.length by omega,if_false];exact hm.least k h n hn w hw
    ·obtain rfl:k=st.length:=by omega
     rw[hnew]at hn;simp only[if_true];intro hlt;exact((v2 n).1 hn).2 (hbef w hlt n hw).1
   ·intro n hn;exact hsn n (hst n hn).1 (hm.begun n hn)
   ·intro k hk p hp c hc hor m hmm;rw[hlen]at hk
    by_cases h:k<st.length
    ·rw[hold k h]at hp;have hpr:=(hm.nodes k h p hp).2.2;have hmr:=hnx p c hpr.1 hpr.2 hc m hmm
     rcases hor with h1|⟨h1,h2⟩
     ·exact hsn m hmr.1 (hm.done k h p hp c hc (.inl h1) m hmm)
     ·rcases Al.1 h2 with h3|h3
      ·exact hsn m hmr.1 (hm.done k h p hp c hc (.inr ⟨h1,h3⟩) m hmm)
      ·simp at h3;subst h3;subst h1;exact hdone p hp m hmm
    ·exfalso;omega
theorem aGi{i:Nat}(ha:Asc ls)(hnx:∀p c:Int,0<=p->p<size->c∈ls->∀m∈nx p c,0<=m/\m<size)(hst:∀n∈start,0<=n/\n<size){ns:List Int}:∀(rs ds:List Int) (s:List Bool) (st:List PStep) (W:Nat->List Int),Mid nx gl ls start size i ds s st W->i<st.length->ls=ds++rs->ns=(st.getD i default).ns->
  ((ltG nx gl ns i rs (s,st)).1=true->Q1 (Hits nx ls start gl) (fZ (ltG nx gl ns i rs (s,st)).2.2 (ltG nx gl ns i rs (s,st)).2.2.length ((ltG nx gl ns i rs (s,st)).2.2.length-1)))/\
  ((ltG nx gl ns i rs (s,st)).1≠true->st.length<=(ltG nx gl ns i rs (s,st)).2.2.length/\∃W',Mid nx gl ls start size (i+1) [] (ltG nx gl ns i rs (s,st)).2.1 (ltG nx gl ns i rs (s,st)).2.2 W'):=by
 intro rs
 induction rs with
 |nil=>
  intro ds s st W hm hi hls hns;simp only[Ai]at hls;subst hls;refine⟨fun h=>by simp[ltG]at h,fun _=>⟨Ab _,W,hm.len,hm.room,hm.wide,?_,hm.nodes,hm.all,hm.asc,hm.least,hm.none,hm.begun,?_⟩⟩
  ·intro k hk
   rcases hm.par0 k hk with h0|⟨p,h1,h2,h3,h4⟩
   ·exact .inl h0
   ·exact .inr ⟨p,h1,h2,.inl (by omega),h4⟩
  ·intro k hk p hp l hl hor m hmm
   rcases hor with h|⟨_,h⟩
   ·exact hm.done k hk p hp l hl (by by_cases hki:k=i;exact .inr ⟨hki,hl⟩;exact .inl (by omega)) m hmm
   ·cases h
 |cons l rs ih=>
  intro ds s st W hm hi hls hns;obtain⟨h1,h2⟩:=aK1 hm hi hls ha hnx hst;rw[<-hns]at h1 h2;simp only[ltG]
  by_cases hb:(visG gl (flat nx ns l) s [] false).2.2=true
  ·simp only[hb,if_true];refine⟨fun _=> ?_,fun h=>(h rfl).elim⟩;obtain⟨k1,k2⟩:=h1 hb;unfold addP;rw[if_neg k2];simp only[Af,Ad,Ac,Ag,Nat.add_sub_cancel]
   have hw:fZ (st++[⟨i,l,(visG gl (flat nx ns l) s [] false).2.1⟩]) (st.length+1) st.length=W i++[l]:=by
    unfold fZ;rw[PM];simp only[Ct];rw[if_pos (by omega)]
    congr 1
    have hpre:∀(j k:Nat),k<j->k<st.length->∀x,fZ (st++[x]) j k=fZ st j k:=by
     intro j
     induction j with
     |zero=>intro k hk;omega
     |succ j ihj=>
      intro k hk hl x;unfold fZ;rw[j6 hl]
      rcases hm.par0 k hl with⟨h1,h2⟩|⟨p,h1,h2,_,h3⟩
      ·rw[if_neg (by omega),if_neg (by omega)]
      ·rw[if_pos (by omega),if_pos (by omega),h1,Ct,ihj p (by omega) (by omega)]
    rw[hpre _ _ hi hi,aMJ hm _ _ hi hi]
   rw[hw];exact k1
  ·simp only[hb];obtain⟨W',hm'⟩:=h2 hb
   have hle:st.length<=(addP st i l (visG gl (flat nx ns l) s [] false).2.1).length:=by
    unfold addP;split<;>simp
   have hget:ns=((addP st i l (visG gl (flat nx ns l) s [] false).2.1).getD i default).ns:=by
    rw[hns];unfold addP
    split
    ·rfl
    ·rw[j6 hi]
   obtain⟨g1,g2⟩:=ih (ds++[l]) _ _ W' hm' (by omega) (by rw[hls];simp) hget;exact⟨g1,fun h=>⟨Bt hle (g2 h).1,(g2 h).2⟩⟩
theorem aI4(ha:Asc ls)(hnx:∀p c:Int,0<=p->p<size->c∈ls->∀m∈nx p c,0<=m/\m<size)(hst:∀n∈start,0<=n/\n<size):∀(j i:Nat) (s:List Bool) (st:List PStep) (W:Nat->List Int),Mid nx gl ls start size i [] s st W->i<=st.length->size+1<=i+j->
  ((outG nx gl ls j i (s,st)).1=true->Q1 (Hits nx ls start gl) (fZ (outG nx gl ls j i (s,st)).2.2 (outG nx gl ls j i (s,st)).2.2.length ((outG nx gl ls j i (s,st)).2.2.length-1)))/\
  ((outG nx gl ls j i (s,st)).1≠true->∀w,¬Hits nx ls start gl w):=by
 have fin:∀(i:Nat) (s:List Bool) (st:List PStep) (W:Nat->List Int),Mid nx gl ls start size i [] s st W->¬i<st.length->∀w,¬Hits nx ls start gl w:=by
  intro i s st W hm hi w
  have key:∀(q:Nat) (w:List Int),w.length=q->∀n,qR nx ls start w n->Sn s n/\(0<=n/\n<size):=by
   intro q
   induction q with
   |zero=>
    intro w hw n hc;have:w=[]:=Bx.1 hw;subst this;have:=E8.1 hc;exact⟨hm.begun n this,hst n this⟩
   |succ q ih=>
    intro w hw n hc
    rcases JV w with rfl|⟨u,c,rfl⟩
    ·simp at hw
    obtain⟨hcl,p,hp,hn⟩:=KM.1 hc;obtain⟨h1,h2⟩:=ih u (by simpa using hw) p hp;obtain⟨k,hk,hpk⟩:=hm.all p h2.1 h1;exact⟨hm.done k hk p hpk c hcl (.inl (by omega)) n hn,hnx p c h2.1 h2.2 hcl n hn⟩
  rintro⟨u,hu,hg⟩;obtain⟨h1,h2⟩:=key w.length w rfl u hu;rw[hm.none u h2.1 h1]at hg;cases hg
 intro j
 induction j with
 |zero=>
  intro i s st W hm hi hj;have:=hm.room;exfalso;omega
 |succ j ih=>
  intro i s st W hm hi hj;simp only[outG]
  by_cases hlt:i<st.length
  ·simp only[hlt,if_true];obtain⟨h1,h2⟩:=aGi (ns:=(st.getD i default).ns) ha hnx hst ls [] s st W hm hlt rfl rfl
   by_cases hb:(ltG nx gl (st.getD i default).ns i ls (s,st)).1=true
   ·simp only[hb,if_true];exact⟨fun _=>h1 hb,fun h=>(h rfl).elim⟩
   ·simp only[hb];obtain⟨h3,W',hm'⟩:=h2 hb;exact ih (i+1) _ _ W' hm' (Bt hlt h3) (by omega)
  ·rw[if_neg hlt];exact⟨fun h=>Bool.noConfusion h,fun _=>fin i s st W hm hlt⟩
theorem aAe(ha:Asc ls)(hnx:∀p c:Int,0<=p->p<size->c∈ls->∀m∈nx p c,0<=m/\m<size)(hst:∀n∈start,0<=n/\n<size)(hne:start≠[]):BA (Hits nx ls start gl) (BF nx gl ls start size):=by
 have hz:∀n,¬Sn (List.replicate size false) n:=by
  intro n;unfold Sn;rw[Aa,List.getElem?_replicate]
  split<;>simp
 have hv:=ZY gl start (List.replicate size false) [] false fun n hn=>by simpa using hst n hn
 unfold BF;generalize visG gl start (List.replicate size false) [] false=r at *;obtain⟨s2,f,b⟩:=r;have v1:∀m,0<=m->(Sn s2 m↔m∈start):=fun m hm=>by have:=hv.seen m hm;simp only[hz,false_or]at this;exact this
 have v2:∀m,m∈f↔m∈start:=fun m=>by have:=hv.new m;simpa [hz]using this
 have v3:b=true↔∃m,m∈start/\gl m=true:=by have:=hv.hit;simpa [hz]using this
 have v4:f.length+s2.count false=size:=by have:=hv.cnt;simpa using this
 have v5:s2.length=size:=by have:=hv.len;simpa using this
 simp only
 by_cases hb:b=true
 ·rw[if_pos hb];obtain⟨m,h1,h2⟩:=v3.1 hb;refine .inl ⟨rfl,⟨m,E8.2 h1,h2⟩,fun x _ hx=> ?_⟩
  rcases hx with hx|⟨hx,hy⟩
  ·simp at hx
  ·have:x=[]:=Bx.1 (by simpa using hx);subst this;exact hy
 ·rw[if_neg hb]
  have hf:f≠[]:=by
   intro h;apply hne
   cases start with
   |nil=>rfl
   |cons a az=>
    have:=(v2 a).2 Bi;rw[h]at this;cases this
  have hfl:0<f.length:=Dt.2 hf;have hst1:addP [] (-1) 0 f=[⟨-1,0,f⟩]:=by unfold addP;rw[if_neg hf];rfl
  rw[hst1]
  have hm:Mid nx gl ls start size 0 [] s2 [⟨-1,0,f⟩] (fun _=>[]):=by
   refine⟨v5,by simp;omega,?_,?_,?_,?_,?_,?_,?_,?_,?_⟩
   ·intro k hk;obtain rfl:k=0:=by simpa using hk
    show f.length<=size;omega
   ·intro k hk;obtain rfl:k=0:=by simpa using hk
    exact .inl ⟨by show(-1:Int)<0;decide,rfl⟩
   ·intro k hk n hn;obtain rfl:k=0:=by simpa using hk
    have h1:=(v2 n).1 hn;have h2:=hst n h1;exact⟨E8.2 h1,(v1 n h2.1).2 h1,h2⟩
   ·intro n hn hs;exact⟨0,by simp,(v2 n).2 ((v1 n hn).1 hs)⟩
   ·intro j k hjk hk;simp at hk;omega
   ·intro k hk n hn w hw hlt
    rcases hlt with h|⟨h,h2⟩
    ·simp at h
    ·have:w=[]:=Bx.1 (by simpa using h);subst this;exact h2
   ·intro n hn hs
    cases hg:gl n with
    |false=>rfl
    |true=>exact(hb (v3.2 ⟨n,(v1 n hn).1 hs,hg⟩)).elim
   ·intro n hn;exact(v1 n (hst n hn).1).2 hn
   ·intro k hk p hp l hl hor m hmm;obtain rfl:k=0:=by simpa using hk
    rcases hor with h|⟨_,h⟩
    ·omega
    ·cases h
  obtain⟨g1,g2⟩:=aI4 ha hnx hst (size+1) 0 s2 [⟨-1,0,f⟩] _ hm (by simp) (by omega)
  by_cases ho:(outG nx gl ls (size+1) 0 (s2,[⟨-1,0,f⟩])).1=true
  ·rw[if_pos ho];exact .inl ⟨rfl,g1 ho⟩
  ·rw[if_neg ho];exact .inr ⟨rfl,g2 ho⟩
end
end
theorem PW{l:Int}(h0:0<=l)(h:l<=5):ltr (cK l)=l:=by
 unfold ltr cK;rw[UInt8.toNat_ofNat'];omega
theorem aJk{b:UInt8}:cK (ltr b)=b:=by
 have:=toNat_lt b;unfold ltr cK;have:(97+((b.toNat:Int)-97)).toNat=b.toNat:=by omega
 rw[this];simp
def swp(l:List UInt8)(i j:Nat):List UInt8:=(l.set i (l.getD j 0)).set j (l.getD i 0)
theorem xN(l:List UInt8)(i j:Nat):(swp l i j).length=l.length:=by simp[swp]
theorem aNe{l:List UInt8}{i j:Nat}(hi:i<l.length)(hj:j<l.length){b:UInt8}(h:b∈swp l i j):b∈l:=by
 unfold swp at h;have key:∀ {l':List UInt8} {k:Nat} {v b:UInt8},b∈l'.set k v->b∈l'\/b=v:=fun h=>Dj h
 have at':∀ {k:Nat},k<l.length->l.getD k 0∈l:=fun hk=>by
  rw[Aa,Ae hk];exact Az hk
 rcases key h with h|h
 ·rcases key h with h|h
  ·exact h
  ·rw[h];exact at' hj
 ·rw[h];exact at' hi
def revG:Nat->Int->Int->List UInt8->Int×Int×List UInt8
 |0,i,j,l=>(i,j,l)
 |q+1,i,j,l=>if i<j then revG q (i+1) (j-1) (swp l i.toNat j.toNat)else(i,j,l)
theorem X5:∀(q:Nat) (i j:Int) (l:List UInt8),0<=i->j<l.length->(revG q i j l).2.2.length=l.length/\∀b∈(revG q i j l).2.2,b∈l
 |0,i,j,l,_,_=>⟨rfl,fun b h=>h⟩
 |q+1,i,j,l,h0,h1=>by
  unfold revG
  split
  ·rename_i hlt
   have ih:=X5 q (i+1) (j-1) (swp l i.toNat j.toNat) (by omega) (by rw[xN];omega);rw[xN]at ih;exact⟨ih.1,fun b hb=>aNe (by omega) (by omega) (ih.2 b hb)⟩
  ·exact⟨rfl,fun b h=>h⟩
theorem aM3{call:aX}{thaw:List Nat}{dst:Option Tmp}{x y:Operand}{g k:Nat}{l:List UInt8}{b:UInt8}(hk:k<l.length):memD env call thaw dst (.store 5 x y) [.arr (bI l) 1 g] [.ptr 0 g k,.d (.int .u8 (b.toNat:Int))]=some (.d .undef,[.arr (bI (l.set k b)) 1 g],{ ids:=[0],ro:=false,wr:=[0]}):=by
 have hst:=aLw (h:=[]) (g:=g) (e:=1) (b:=b) hk;have e1:aD aG [O.arr (bI l) 1 g] (idsL [.ptr 0 g k,.d (.int .u8 (b.toNat:Int))]) []=[0]:=rfl;have e2:pack [O.arr (bI l) 1 g] [0]=[O.arr (bI l) 1 g]:=rfl;have e3:aE (aI [0]) [.ptr 0 g k,.d (.int .u8 (b.toNat:Int))]=[.ptr 0 g k,.d (.int .u8 (b.toNat:Int))]:=rfl;unfold memD;rw[e1];simp only[box];rw[e2,e3];simp only[evOp,dX,two,hst,Ax];rfl
theorem aLU{R:Type}{L n g:Nat}{k:KE R}:∀(q:Nat) (i j:Int) (m:Nat) (l:List UInt8) (len:Nat) (h0:0<=i) (hj:j<l.length) (hq:j-i<q) (hm:q<m) (hl:len=l.length) (hs:l.length<=2147483648) (hj0:-1<=j),
  aM env (aA env L n) L 1 [] Bz38 (dC 0) Bz55 m (.sl 0 g 0 len::Y1 (nI i::nI j::Y16 (Y8 ([])))) [.arr (bI l) 1 g] k
  =k (.exit 0) (.sl 0 g 0 len::Y1 (nI ((revG q i j l).1)::nI ((revG q i j l).2.1)::Y16 (Y8 ([])))) [.arr (bI (revG q i j l).2.2) 1 g]:=by
 intro q
 induction q with
 |zero=>
  intro i j m l len h0 hj hq hm hl hs hj0;obtain _|m:=m;omega;have hc:¬i<j:=by omega
  simp -implicitDefEqProofs (maxSteps:=2000000) (disch:=try exact Dz) only[↓DN,↓kRet,UP,simprocAttr,hc,f0,eU,Tryz.f149];rfl
 |succ q ih=>
  intro i j m l len h0 hj hq hm hl hs hj0;obtain _|m:=m;omega
  by_cases hc:i<j
  ·have hi1:i<(len:Int):=by omega
   have hj1:j<(len:Int):=by omega
   have hi2:i.toNat<l.length:=by omega
   have hj2:j.toNat<l.length:=by omega
   have hj3:j.toNat<(l.set i.toNat (l.getD j.toNat 0)).length:=by rw[Bk];exact hj2
   have hj4:(0:Int)<=j:=by omega
   have ih':=ih (i+1) (j-1) m (swp l i.toNat j.toNat) len (by omega) (by rw[xN];omega) (by omega) (by omega) (by rw[xN];exact hl) (by rw[xN];exact hs) (by omega);unfold swp at ih';simp -implicitDefEqProofs (maxSteps:=2000000) (disch:=try exact Dz) only[↓DN,↓kRet,UP,simprocAttr,hc,↓aM3,↓ih',f0,eU,Tryz.f149];simp only[revG,hc,if_true,swp]
  ·simp -implicitDefEqProofs (maxSteps:=2000000) (disch:=try exact Dz) only[↓DN,↓kRet,UP,simprocAttr,hc,f0,eU,Tryz.f149];simp only[revG,hc,if_false]
theorem aNK{L n g:Nat}(hn:1<=n)(l:List UInt8)(hs:l.length<=2147483648)(hL:2^60<=L):aA env L n 149 [.sl 0 g 0 l.length] [.arr (bI l) 1 g]=some (.tup [],[.arr (bI (revG (l.length+1) 0 ((l.length:Int)-1) l).2.2) 1 g]):=by
 have lp:∀ {R:Type} {n:Nat} {k:KE R},aM env (aA env L n) L 1 [] Bz38 (dC 0) Bz55 L (.sl 0 g 0 l.length::Y1 (nI 0::nI ((l.length:Int)-1)::Y16 (Y8 ([])))) [.arr (bI l) 1 g] k
  =k (.exit 0) (.sl 0 g 0 l.length::Y1 (nI ((revG (l.length+1) 0 ((l.length:Int)-1) l).1)::nI ((revG (l.length+1) 0 ((l.length:Int)-1) l).2.1)::Y16 (Y8 ([])))) [.arr (bI (revG (l.length+1) 0 ((l.length:Int)-1) l).2.2) 1 g]:=
  fun {R n k}=>aLU (l.length+1) 0 _ L l l.length (Int.le_refl _) (by omega) (by omega) (by omega) rfl hs (by omega)
 have loop_a:=@lp;obtain _|n:=n;omega;simp -implicitDefEqProofs (maxSteps:=2000000) (disch:=try exact Dz) only[↓DN,↓kAsg,↓kRet,UP,simprocAttr,↓loop_a,y8,nX,Tryz.f149]
theorem aN6{R:Type}{L n id g:Nat}{hq:H}{k:KA R}(hn:1<=n)(l:List UInt8)(hi:hq[id]? =some (.arr (bI l) 1 g))(hs:l.length<=2147483648)(hL:2^60<=L):aZ env (aA env L n) hq 149 [.sl id g 0 l.length] k=k (.tup []) (hq.set id (.arr (bI (revG (l.length+1) 0 ((l.length:Int)-1) l).2.2) 1 g)):=
 PV hi (by simp[idsL,idsA]) wK rfl (by simpa [aE,mapA,aI]using aNK hn l hs hL)
section
variable{R:Type}{L n:Nat}
def visF:List Int->List Bool->List Int->List Bool×List Int
 | [],s,f=>(s,f)
 |n::ns,s,f=>if s.getD n.toNat false=true then visF ns s f else visF ns (s.set n.toNat true) (f++[n])
def gI(s:List Bool):Nat:=s.count false
theorem VG:∀(ns:List Int) (s:List Bool) (f:List Int),(visF ns s f).1.length=s.length
 | [],s,f=>rfl
 |n::ns,s,f=>by
  unfold visF
  split
  ·exact VG ns s f
  ·rw[VG ns];simp
theorem SR:∀ {s:List Bool} {k:Nat},s.getD k false=false->k<s.length->gI (s.set k true)+1=gI s
 | [],k,h,hk=>by simp at hk
 |b::s,0,h,hk=>by
  simp at h;subst h;simp[gI]
 |b::s,k+1,h,hk=>by
  have ih:=SR (s:=s) (k:=k) (by simpa using h) (by simpa using hk);simp only[gI]at ih|-;simp only[Bl,List.count_cons];omega
theorem EL:∀(ns:List Int) (s:List Bool) (f:List Int),(∀n∈ns,0<=n/\n<s.length)->(visF ns s f).2.length+gI (visF ns s f).1=f.length+gI s
 | [],s,f,h=>rfl
 |n::ns,s,f,h=>by
  unfold visF
  split
  ·exact EL ns s f fun m hm=>h m (Be _ hm)
  ·rename_i h1
   have h2:=h n Bi;rw[EL ns _ _ fun m hm=>by simpa using h m (Be _ hm)];have:=SR (s:=s) (k:=n.toNat) (by simpa using h1) (by omega);simp only[Af,Ad,Ac];omega
theorem UM:∀(ns:List Int) (s:List Bool) (f:List Int) (x:Int),x∈(visF ns s f).2->x∈f\/x∈ns
 | [],s,f,x,h=>.inl h
 |n::ns,s,f,x,h=>by
  unfold visF at h
  split at h
  ·rcases UM ns s f x h with h|h
   ·exact .inl h
   ·exact .inr (Be _ h)
  ·rcases UM ns _ _ x h with h|h
   ·rcases Al.1 h with h|h
    ·exact .inl h
    ·simp at h;subst h;exact .inr Bi
   ·exact .inr (Be _ h)
theorem NU(s:List Bool):gI s<=s.length:=List.count_le_length
structure PGood(I:Int->Prop)(size:Nat)(s:List Bool)(st:List PStep):Prop where
 len:s.length=size
 node:∀p∈st,∀n∈p.ns,I n
 room:st.length+gI s<=size
 wide:∀p∈st,p.ns.length<=size
theorem aHZ{I:Int->Prop}{size:Nat}{s:List Bool}{st:List PStep}(h:PGood I size s st){ns:List Int}(hI:∀n∈ns,I n)(hr:∀n,I n->0<=n/\n<size)(p l:Int):
  PGood I size (visF ns s []).1 (addP st p l (visF ns s []).2)/\(addP st p l (visF ns s []).2).length+gI (visF ns s []).1<=st.length+gI s/\st.length<=(addP st p l (visF ns s []).2).length:=by
 have hc:=EL ns s [] fun n hn=>by
  have:=hr n (hI n hn);rw[h.len];exact this
 have hm:=UM ns s [];have hl:=VG ns s [];have hu:=NU s;rw[h.len]at hu;have hroom:=h.room;simp only[Ac,Ag]at hc;unfold addP
 split
 ·rename_i hf
  rw[hf]at hc;simp only[Ac,Ag]at hc;exact⟨⟨by rw[hl,h.len],h.node,by omega,h.wide⟩,by omega,by omega⟩
 ·rename_i hf
  have hpos:0<(visF ns s []).2.length:=Dt.2 hf;refine⟨⟨by rw[hl,h.len],?_,by simp only[Af,Ad,Ac];omega,?_⟩,by simp only[Af,Ad,Ac];omega,by simp⟩
  ·intro q hq n hn
   rcases Al.1 hq with hq|hq
   ·exact h.node q hq n hn
   ·simp at hq;subst hq
    rcases hm n hn with h1|h1
    ·cases h1
    ·exact hI n h1
  ·intro q hq
   rcases Al.1 hq with hq|hq
   ·exact h.wide q hq
   ·simp at hq;subst hq;show(visF ns s []).2.length<=size;omega
theorem vQ(gl:Int->Bool):∀(ns:List Int) (s:List Bool) (f:List Int) (b:Bool),(visG gl ns s f b).1=(visF ns s f).1/\(visG gl ns s f b).2.1=(visF ns s f).2
 | [],s,f,b=>⟨rfl,rfl⟩
 |n::ns,s,f,b=>by
  unfold visG visF
  split
  ·exact vQ gl ns s f b
  ·exact vQ gl ns _ _ _
theorem GR{I:Int->Prop}{gl:Int->Bool}{size:Nat}{s:List Bool}{st:List PStep}(h:PGood I size s st){ns:List Int}(hI:∀n∈ns,I n)(hr:∀n,I n->0<=n/\n<size)(p l:Int):
  PGood I size (visG gl ns s [] false).1 (addP st p l (visG gl ns s [] false).2.1)/\(addP st p l (visG gl ns s [] false).2.1).length+gI (visG gl ns s [] false).1<=st.length+gI s/\st.length<=(addP st p l (visG gl ns s [] false).2.1).length:=by
 obtain⟨e1,e2⟩:=vQ gl ns s [] false;rw[e1,e2];exact aHZ h hI hr p l
theorem K9{I:Int->Prop}{gl:Int->Bool}{size:Nat}{nx:Int->Int->List Int}{ns:List Int}{p:Int}(hr:∀n,I n->0<=n/\n<size)(hn:∀n∈ns,I n):∀(ls:List Int) (q:List Bool×List PStep),(∀n m,I n->m∈ls->∀y∈nx n m,I y)->PGood I size q.1 q.2->
  PGood I size (ltG nx gl ns p ls q).2.1 (ltG nx gl ns p ls q).2.2/\(ltG nx gl ns p ls q).2.2.length+gI (ltG nx gl ns p ls q).2.1<=q.2.length+gI q.1/\q.2.length<=(ltG nx gl ns p ls q).2.2.length
 | [],q,hx,h=>⟨h,Ab _,Ab _⟩
 |l::ls,q,hx,h=>by
  have hI:∀m∈flat nx ns l,I m:=by
   intro m hm;obtain⟨n,h1,h2⟩:=Dq.1 hm;exact hx n l (hn n h1) Bi m h2
  obtain⟨g1,g2,g3⟩:=GR (gl:=gl) h hI hr p l;unfold ltG
  split
  ·exact⟨g1,g2,g3⟩
  ·obtain⟨k1,k2,k3⟩:=K9 (gl:=gl) (p:=p) hr hn ls (_,_) (fun n m h1 h2=>hx n m h1 (Be _ h2)) g1;exact⟨k1,Bt k2 g2,Bt g3 k3⟩
def b8:List PStep->List D
 | []=>[]
 |p::l=>.int .i64 p.par::.int .i64 p.lt::.ivs p.ns.length (ints p.ns)::b8 l
theorem tC:∀ {l:List PStep},(b8 l).length=l.length*3
 | []=>rfl
 |p::l=>by simp only[b8,Ad,tC (l:=l)];omega
theorem WS:∀ {a b:List PStep},b8 a++b8 b=b8 (a++b)
 | [],b=>rfl
 |p::a,b=>by simp only[b8,Av,WS (a:=a)]
theorem aID{l:List PStep}{p t:Int}{ns:List Int}{z:Nat}(h:z=ns.length):b8 l++[.int .i64 p,.int .i64 t,.ivs z (ints ns)]=b8 (l++[⟨p,t,ns⟩]):=by
 subst h;rw[<-WS];rfl
theorem yI:∀ {l:List PStep} {k:Nat},(b8 l).drop (k*3)=b8 (l.drop k)
 |l,0=>by simp
 | [],k+1=>by simp[b8]
 |p::l,k+1=>by
  rw[Bw,Nat.one_mul];simp only[b8,Dg];exact yI
theorem JO{l:List PStep}{k:Nat}(h:l.length<=k):(b8 l).take (k*3)=b8 l:=Cf (by rw[tC];omega)
theorem SM{l:List PStep}{k:Nat}(h:k<l.length):(((b8 l).drop (k*3+2)).map A.d).head? =some (.d (.ivs (l.getD k default).ns.length (ints (l.getD k default).ns))):=by
 rw[<-Ci,yI,cB h (d:=default)];rfl
def dE(l:List Bool):List D:=l.map .bool
theorem O9{l:List Bool}:(dE l).length=l.length:=by simp[dE]
theorem WW{l:List Bool}{k:Nat}(h:k<l.length):(((dE l).drop k).map A.d).head? =some (.d (.bool (l.getD k false))):=by
 rw[List.head?_map,Cy,dE,Bd,Aa,Ae h];rfl
theorem aBR{l:List Bool}{k:Nat}{v:Bool}(h:k<l.length):bG (dE l) k [.bool v]=dE (l.set k v):=uZ _ l k v h
theorem OC{a b c:O}{h:H}{g e k:Nat}{l:List Bool}{v:Bool}(hk:k<l.length):iR env.P (a::b::c::.arr (dE l) e g::h) 4 (.ptr 3 g k) (.d (.bool v))=some (a::b::c::.arr (dE (l.set k v)) e g::h):=by
 rw[rJ (id:=3) rfl aEW aI0 rfl (by rw[O9];exact hk),aBR hk];rfl
theorem PC{a b c d:O}{h:H}{g e k:Nat}{l:List Bool}{v:Bool}(hk:k<l.length):iR env.P (a::b::c::d::.arr (dE l) e g::h) 4 (.ptr 4 g k) (.d (.bool v))=some (a::b::c::d::.arr (dE (l.set k v)) e g::h):=by
 rw[rJ (id:=4) rfl aEW aI0 rfl (by rw[O9];exact hk),aBR hk];rfl
theorem rng5:List.range 5=[0,1,2,3,4]:=rfl
theorem rng6:List.range 6=[0,1,2,3,4,5]:=rfl
theorem aDo:dU env.P 63=some false:=kr
theorem PE:type_of% (AI rng5 (AI rng6 (AI @tC (AI @JO (AI @SM @WW))))):=
 ⟨rng5,rng6,@tC,@JO,@SM,@WW⟩
theorem aJR(hn:3<=n)(hL:2^60<=L){I:Int->Prop}{gl:Int->Bool}{gf:FuncId}{caps:List D}{size:Nat}{p l:Int}{ns:List Int}{sc:List D}{se sg sn:Nat}(kc_g:∀ {R:Type} {n:Nat} {hq:H} {k:KA R} (x:Int),2<=n->I x->aZ env (aA env L n) hq gf (nI x::caps.map A.d) k=k (.d (.bool (gl x))) hq)(hI:∀x∈ns,I x)(hr:∀x,I x->0<=x/\x<size)(hsz:size<=4294967296)(hnl:ns.length<=4294967290){k:KE R}:∀(j i m:Nat) (seen:List Bool) (f:List Int) (b:Bool) (len:Nat) (hi:i+j=ns.length) (hm:j<m) (hs:seen.length=size) (hf:f.length<=i) (hlen:len=f.length),
  aM env (aA env L n) L (5) (W8 (W2 [2])) Bz8 (gX 0) Bz23 m (nI p::nI l::Y1 (.ptr 0 0 0::.ptr 1 0 0::.ptr 2 0 0::Y2 (Y1 (.d (.bool false)::.sl 5 0 0 len::.d (.bool b)::Y2 (.d (.ivs ns.length (ints ns))::nI (ns.length)::nI i::Y32 (Y1 ([]))))))) [.box [.sl 3 0 0 size],.box [.d (.fn gf caps)],.box [.sl 4 sg 0 sn],.arr (dE seen) 1 0,.arr sc se sg,.arr (ints f) 1 0] k
  =k (.exit 0) (nI p::nI l::Y1 (.ptr 0 0 0::.ptr 1 0 0::.ptr 2 0 0::Y2 (Y1 (.d (.bool false)::.sl 5 0 0 (visG gl (ns.drop i) seen f b).2.1.length::.d (.bool (((visG gl (ns.drop i) seen f b).2.2)))::Y2 (.d (.ivs ns.length (ints ns))::nI (ns.length)::nI (ns.length)::Y32 (Y1 ([]))))))) [.box [.sl 3 0 0 size],.box [.d (.fn gf caps)],.box [.sl 4 sg 0 sn],.arr (dE (visG gl (ns.drop i) seen f b).1) 1 0,.arr sc se sg,.arr (ints (visG gl (ns.drop i) seen f b).2.1) 1 0]:=by
 intro j
 induction j with
 |zero=>
  intro i m seen f b len hi hm hs hf hlen;obtain _|m:=m;omega;obtain rfl:i=ns.length:=by omega
  subst hlen;simp -implicitDefEqProofs (maxSteps:=2000000) (disch:=try exact Dz) only[↓DN,↓kRet,UP,simprocAttr,PE,Aj,cD,cJ,Tryz.f126];simp only[Ca,visG]
 |succ j ih=>
  intro i m seen f b len hi hm hs hf hlen;obtain _|m:=m;omega;subst hlen;have hc:(i:Int)<ns.length:=by omega
  have hk:i<ns.length:=by omega
  have hmem:ns.getD i 0∈ns:=by rw[Aa,Ae hk];exact Az hk
  have hIx:=hI _ hmem;obtain⟨b1,b2⟩:=hr _ hIx;have b3:(ns.getD i 0).toNat<seen.length:=by omega
  have e4:((i+1:Nat):Int)=(i:Int)+1:=by omega
  rw[cB hk (d:=0)]
  cases hb:seen.getD (ns.getD i 0).toNat false with
  |true=>
   have ih':=ih (i+1) m seen f b f.length (by omega) (by omega) hs (by omega) rfl;rw[e4]at ih';clear ih hmem;simp -implicitDefEqProofs (maxSteps:=2000000) (disch:=try exact Dz) only[↓DN,↓kRet,UP,simprocAttr,PE,hc,b1,b2,hb,↓ih',cD,cJ,Tryz.f126];simp only[visG,hb,if_true]
  |false=>
   cases b with
   |true=>
    have ih':=ih (i+1) m (seen.set (ns.getD i 0).toNat true) (f++[ns.getD i 0]) true (f.length+1) (by omega) (by omega) (by simp[hs]) (by simp;omega) (by simp);rw[e4]at ih';clear ih hmem;simp -implicitDefEqProofs (maxSteps:=2000000) (disch:=try exact Dz) only[↓DN,↓kRet,UP,simprocAttr,PE,hc,b1,b2,hb,↓OC,↓ih',cD,cJ,Tryz.f126];simp only[visG,hb,Ak,if_false,Bool.true_or]
   |false=>
    cases hg:gl (ns.getD i 0)with
    |true=>
     have ih':=ih (i+1) m (seen.set (ns.getD i 0).toNat true) (f++[ns.getD i 0]) true (f.length+1) (by omega) (by omega) (by simp[hs]) (by simp;omega) (by simp);rw[e4]at ih';clear ih hmem;simp -implicitDefEqProofs (maxSteps:=2000000) (disch:=try exact Dz) only[↓DN,↓kRet,UP,simprocAttr,PE,aDo,hc,b1,b2,hb,hg,↓OC,↓kc_g,↓ih',cD,cJ,Tryz.f126];simp only[visG,hb,hg,Ak,if_false,Bool.or_true]
    |false=>
     have ih':=ih (i+1) m (seen.set (ns.getD i 0).toNat true) (f++[ns.getD i 0]) false (f.length+1) (by omega) (by omega) (by simp[hs]) (by simp;omega) (by simp);rw[e4]at ih';clear ih hmem;simp -implicitDefEqProofs (maxSteps:=2000000) (disch:=try exact Dz) only[↓DN,↓kRet,UP,simprocAttr,PE,aDo,hc,b1,b2,hb,hg,↓OC,↓kc_g,↓ih',cD,cJ,Tryz.f126];simp only[visG,hb,hg,Ak,if_false,Bool.or_false]
theorem aIU(hn:3<=n)(hL:2^60<=L){I:Int->Prop}{gl:Int->Bool}{gf:FuncId}{caps:List D}{size:Nat}{p l:Int}{ns:List Int}{sc:List D}{se sg sn:Nat}(kc_g:∀ {R:Type} {n:Nat} {hq:H} {k:KA R} (x:Int),2<=n->I x->aZ env (aA env L n) hq gf (nI x::caps.map A.d) k=k (.d (.bool (gl x))) hq)(hI:∀x∈ns,I x)(hr:∀x,I x->0<=x/\x<size)(hsz:size<=4294967296)(hnl:ns.length<=4294967290){k:KE R}:∀(j i m:Nat) (seen:List Bool) (f:List Int) (b:Bool) (len:Nat) (hi:i+j=ns.length) (hm:j<m) (hs:seen.length=size) (hf:f.length<=i) (hlen:len=f.length),
  aM env (aA env L n) L (6) (W8 (W2 [2])) Bz8 (gX 0) Bz23 m (nI p::nI l::Y1 (.ptr 0 0 0::.ptr 1 0 0::.ptr 2 0 0::Y2 (Y1 (.d (.bool false)::.sl 6 0 0 len::.d (.bool b)::Y2 (.sl 3 0 0 ns.length::nI (ns.length)::nI i::Y32 (Y1 ([]))))))) [.box [.sl 4 0 0 size],.box [.d (.fn gf caps)],.box [.sl 5 sg 0 sn],.arr (ints ns) 1 0,.arr (dE seen) 1 0,.arr sc se sg,.arr (ints f) 1 0] k
  =k (.exit 0) (nI p::nI l::Y1 (.ptr 0 0 0::.ptr 1 0 0::.ptr 2 0 0::Y2 (Y1 (.d (.bool false)::.sl 6 0 0 (visG gl (ns.drop i) seen f b).2.1.length::.d (.bool (((visG gl (ns.drop i) seen f b).2.2)))::Y2 (.sl 3 0 0 ns.length::nI (ns.length)::nI (ns.length)::Y32 (Y1 ([]))))))) [.box [.sl 4 0 0 size],.box [.d (.fn gf caps)],.box [.sl 5 sg 0 sn],.arr (ints ns) 1 0,.arr (dE (visG gl (ns.drop i) seen f b).1) 1 0,.arr sc se sg,.arr (ints (visG gl (ns.drop i) seen f b).2.1) 1 0]:=by
 intro j
 induction j with
 |zero=>
  intro i m seen f b len hi hm hs hf hlen;obtain _|m:=m;omega;obtain rfl:i=ns.length:=by omega
  subst hlen;simp -implicitDefEqProofs (maxSteps:=2000000) (disch:=try exact Dz) only[↓DN,↓kRet,UP,simprocAttr,PE,Aj,cD,cJ,Tryz.f126];simp only[Ca,visG]
 |succ j ih=>
  intro i m seen f b len hi hm hs hf hlen;obtain _|m:=m;omega;subst hlen;have hc:(i:Int)<ns.length:=by omega
  have hk:i<ns.length:=by omega
  have hmem:ns.getD i 0∈ns:=by rw[Aa,Ae hk];exact Az hk
  have hIx:=hI _ hmem;obtain⟨b1,b2⟩:=hr _ hIx;have b3:(ns.getD i 0).toNat<seen.length:=by omega
  have e4:((i+1:Nat):Int)=(i:Int)+1:=by omega
  rw[cB hk (d:=0)]
  cases hb:seen.getD (ns.getD i 0).toNat false with
  |true=>
   have ih':=ih (i+1) m seen f b f.length (by omega) (by omega) hs (by omega) rfl;rw[e4]at ih';clear ih hmem;simp -implicitDefEqProofs (maxSteps:=2000000) (disch:=try exact Dz) only[↓DN,↓kRet,UP,simprocAttr,PE,hc,b1,b2,hb,↓ih',cD,cJ,Tryz.f126];simp only[visG,hb,if_true]
  |false=>
   cases b with
   |true=>
    have ih':=ih (i+1) m (seen.set (ns.getD i 0).toNat true) (f++[ns.getD i 0]) true (f.length+1) (by omega) (by omega) (by simp[hs]) (by simp;omega) (by simp);rw[e4]at ih';clear ih hmem;simp -implicitDefEqProofs (maxSteps:=2000000) (disch:=try exact Dz) only[↓DN,↓kRet,UP,simprocAttr,PE,hc,b1,b2,hb,↓PC,↓ih',cD,cJ,Tryz.f126];simp only[visG,hb,Ak,if_false,Bool.true_or]
   |false=>
    cases hg:gl (ns.getD i 0)with
    |true=>
     have ih':=ih (i+1) m (seen.set (ns.getD i 0).toNat true) (f++[ns.getD i 0]) true (f.length+1) (by omega) (by omega) (by simp[hs]) (by simp;omega) (by simp);rw[e4]at ih';clear ih hmem;simp -implicitDefEqProofs (maxSteps:=2000000) (disch:=try exact Dz) only[↓DN,↓kRet,UP,simprocAttr,PE,aDo,hc,b1,b2,hb,hg,↓PC,↓kc_g,↓ih',cD,cJ,Tryz.f126];simp only[visG,hb,hg,Ak,if_false,Bool.or_true]
    |false=>
     have ih':=ih (i+1) m (seen.set (ns.getD i 0).toNat true) (f++[ns.getD i 0]) false (f.length+1) (by omega) (by omega) (by simp[hs]) (by simp;omega) (by simp);rw[e4]at ih';clear ih hmem;simp -implicitDefEqProofs (maxSteps:=2000000) (disch:=try exact Dz) only[↓DN,↓kRet,UP,simprocAttr,PE,aDo,hc,b1,b2,hb,hg,↓PC,↓kc_g,↓ih',cD,cJ,Tryz.f126];simp only[visG,hb,hg,Ak,if_false,Bool.or_false]
theorem aM6(hn:4<=n)(hL:2^60<=L){I:Int->Prop}{gl:Int->Bool}{gf:FuncId}{caps:List D}{size:Nat}{p l:Int}{ns:List Int}(kc_g:∀ {R:Type} {n:Nat} {hq:H} {k:KA R} (x:Int),2<=n->I x->aZ env (aA env L n) hq gf (nI x::caps.map A.d) k=k (.d (.bool (gl x))) hq)(hI:∀x∈ns,I x)(hr:∀x,I x->0<=x/\x<size)(hsz:size<=4294967290)(hnl:ns.length<=4294967290)(seen:List Bool)(hs:seen.length=size)(r:List Bool×List Int×Bool)(he:visG gl ns seen [] false=r)(hpos:(0:Int)<r.2.1.length):
  aA env L n 126 [nI p,nI l,.d (.ivs ns.length (ints ns)),.ptr 0 0 0,.ptr 1 0 0,.ptr 2 0 0] [.box [.sl 3 0 0 size],.box [.d (.fn gf caps)],.box [.sl 4 0 0 0],.arr (dE seen) 1 0,.arr [] 0 0]
  =some (.d (.bool r.2.2),[.box [.sl 3 0 0 size],.box [.d (.fn gf caps)],.box [.sl 4 1 0 1],.arr (dE r.1) 1 0,.arr (b8 [⟨p,l,r.2.1⟩]) 3 1]):=by
 have loop_c:=fun {R:Type} {n:Nat} (hn:3<=n) {k:KE R}=> @aJR R L n hn hL I gl gf caps size p l ns [] 0 0 0 (fun {R n hq k}=>kc_g) hI hr (by omega) hnl k ns.length 0 L seen [] false 0 (by omega) (by omega) hs (by simp) rfl;simp only[Bc,he,nF,Ar]at loop_c
 have hb:r.2.1.length<=size:=by
  have h1:=EL ns seen [] fun x hx=>by rw[hs];exact hr x (hI x hx)
  have h2:=NU seen;rw[<-(vQ gl ns seen [] false).1,<-(vQ gl ns seen [] false).2,he]at h1;simp only[Ac,Ag]at h1;omega
 have et:(ints r.2.1).take r.2.1.length=ints r.2.1:=eC (Ab _);obtain _|n:=n;omega;simp -implicitDefEqProofs (maxSteps:=2000000) (disch:=try exact Dz) only[↓DN,↓kAsg,↓kRet,UP,simprocAttr,PE,↓loop_c,hpos,et,sC,m4,Tryz.f126];rfl
theorem aNs(hn:4<=n)(hL:2^60<=L){I:Int->Prop}{gl:Int->Bool}{gf:FuncId}{caps:List D}{size:Nat}{p l:Int}{ns:List Int}(kc_g:∀ {R:Type} {n:Nat} {hq:H} {k:KA R} (x:Int),2<=n->I x->aZ env (aA env L n) hq gf (nI x::caps.map A.d) k=k (.d (.bool (gl x))) hq)(hI:∀x∈ns,I x)(hr:∀x,I x->0<=x/\x<size)(hsz:size<=4294967290)(hnl:ns.length<=4294967290)(seen:List Bool)(hs:seen.length=size)(st:List PStep)(hst:st.length<=4294967290)(r:List Bool×List Int×Bool)(he:visG gl ns seen [] false=r):
  aA env L n 126 [nI p,nI l,.sl 3 0 0 ns.length,.ptr 0 0 0,.ptr 1 0 0,.ptr 2 0 0] [.box [.sl 4 0 0 size],.box [.d (.fn gf caps)],.box [.sl 5 0 0 st.length],.arr (ints ns) 1 0,.arr (dE seen) 1 0,.arr (b8 st) 3 0]
  =some (.d (.bool r.2.2),[.box [.sl 4 0 0 size],.box [.d (.fn gf caps)],.box [.sl 5 (if r.2.1=[]then 0 else 1) 0 (addP st p l r.2.1).length],.arr (ints ns) 1 0,.arr (dE r.1) 1 0,.arr (b8 (addP st p l r.2.1)) 3 (if r.2.1=[]then 0 else 1)]):=by
 have loop_c:=fun {R:Type} {n:Nat} (hn:3<=n) {k:KE R}=> @aIU R L n hn hL I gl gf caps size p l ns (b8 st) 3 0 st.length (fun {R n hq k}=>kc_g) hI hr (by omega) hnl k ns.length 0 L seen [] false 0 (by omega) (by omega) hs (by simp) rfl;simp only[Bc,he,nF,Ar]at loop_c
 have hb:r.2.1.length<=size:=by
  have h1:=EL ns seen [] fun x hx=>by rw[hs];exact hr x (hI x hx)
  have h2:=NU seen;rw[<-(vQ gl ns seen [] false).1,<-(vQ gl ns seen [] false).2,he]at h1;simp only[Ac,Ag]at h1;omega
 have et:(ints r.2.1).take r.2.1.length=ints r.2.1:=eC (Ab _);have es:(b8 st).take (st.length*3)=b8 st:=JO (Ab _);unfold addP
 by_cases hf:r.2.1=[]
 ·rw[if_pos hf,if_pos hf];have hz:r.2.1.length=0:=by rw[hf];rfl
  rw[hz]at loop_c;obtain _|n:=n;omega;simp -implicitDefEqProofs (maxSteps:=2000000) (disch:=try exact Dz) only[↓DN,↓kAsg,↓kRet,UP,simprocAttr,PE,↓loop_c,Ar,Aj,sC,m4,Tryz.f126]
 ·rw[if_neg hf,if_neg hf];have hpos:(0:Int)<r.2.1.length:=by have:=Dt.2 hf;omega
  obtain _|n:=n;omega;simp -implicitDefEqProofs (maxSteps:=2000000) (disch:=try exact Dz) only[↓DN,↓kAsg,↓kRet,UP,simprocAttr,PE,↓loop_c,hpos,et,es,aID,sC,m4,Tryz.f126]
end
section
variable{R:Type}{L n:Nat}
theorem aLv{st:List PStep}{p l:Int}{f:List Int}{i:Nat}(h:i<st.length):(addP st p l f).getD i default=st.getD i default:=by
 unfold addP
 split
 ·rfl
 ·exact j6 h
theorem aLR{nx:Int->Int->List Int}{l:Int}:flat nx [] l=[]:=rfl
theorem aBv{nx:Int->Int->List Int}{n l:Int}{ns:List Int}:flat nx (n::ns) l=nx n l++flat nx ns l:=rfl
theorem aEQ{nx:Int->Int->List Int}{c:Int}(hw:∀x c,(nx x c).length<=64):∀ns:List Int,(flat nx ns c).length<=64*ns.length
 | []=>by simp[flat]
 |x::ns=>by simp only[aBv,Af,Ad];have:=hw x c;have:=aEQ (c:=c) hw ns;omega
def ltI(nx:Int->Int->List Int)(gl:Int->Bool)(ns:List Int)(p:Int):List Int->List Bool×List PStep->Nat
 | [],_=>0
 |l::ls,q=>if(visG gl (flat nx ns l) q.1 [] false).2.2=true then 0 else ltI nx gl ns p ls ((visG gl (flat nx ns l) q.1 [] false).1,addP q.2 p l (visG gl (flat nx ns l) q.1 [] false).2.1)+1
def outI(nx:Int->Int->List Int)(gl:Int->Bool)(ls:List Int):Nat->Nat->List Bool×List PStep->Nat
 |0,i,_=>i
 |j+1,i,q=>if i<q.2.length then
   (if(ltG nx gl (q.2.getD i default).ns i ls q).1=true then i
    else outI nx gl ls j (i+1) (ltG nx gl (q.2.getD i default).ns i ls q).2)
  else i
def txt(w:List Int):List UInt8:=w.map cK
def QZ(st:List PStep):List UInt8:=txt (fZ st st.length (st.length-1))
theorem JP{R:Type}{E:Env}{call:aX}{h:H}{f:FuncId}{args:List A}{len:Nat}{k:KA R}{id e g e2 g2:Nat}{cs cs2:List D}(hi:h[id]? =some (.arr cs e g))(hid:idsL args=[id])(hm:(E.hint f).mode=0)(he:call f (aE (aI [id]) args) [.arr cs e g]=some (.sl 0 g2 0 len,[.arr cs2 e2 g2])):
  aZ E call h f args k=k (.sl id g2 0 len) (h.set id (.arr cs2 e2 g2)):=by
 have hre:aD aG h [id] []=[id]:=by
  have e1:aD aG h [id] []=match h[id]? with
   |some (.box cs)=>aD (aG-1) h ([]++idsL cs) ([]++[id])
   |some (.vec cs _ _)=>aD (aG-1) h ([]++idsL cs) ([]++[id])
   |some .void=>aD (aG-1) h [] []
   |some _=>aD (aG-1) h [] ([]++[id])
   |none=>aD (aG-1) h [] []:=rfl
  rw[e1,hi];rfl
 have hpk:pack h [id]=[.arr cs e g]:=by
  simp only[pack,Ah,Ap,Aa,hi];rfl
 unfold aZ;rw[hid,hre,hpk]
 have hc:bV call E.hint [.arr cs e g] f (aE (aI [id]) args)=some (.sl 0 g2 0 len,[.arr cs2 e2 g2]):=by
  unfold bV;rw[hm];exact he
 rw[hc]
 have hcl:closed h [id] [id]=true:=by
  simp only[closed,Bp,Bz,hi];simp
 have hb:back [id] h.length 1 0=some id:=rfl;simp only[Ad,Ac,Ab,hcl,and_self,if_true,mapA,Ag,hb];simp only[bJ,mapO,Ap,Ai]
theorem aHW(hn:4<=n)(hL:2^60<=L){I:Int->Prop}{nf:FuncId}{caps:List D}{gb:D}{size:Nat}{nx:Int->Int->List Int}{ls ns:List Int}{sc:List D}{seen:List Bool}{sn ii q:Nat}{c:Int}
  (kc_n:∀ {R:Type} {n id:Nat} {hq:H} {k:KA R} (x c:Int) (o:List Int),4<=n->I x->0<=c->c<6->o.length<=2147483648->hq[id]? =some (.arr (ints o) 1 0)->aZ env (aA env L n) hq nf (nI x::nI c::.sl id 0 0 o.length::caps.map A.d) k=k (.sl id (nx x c).length 0 (o++nx x c).length) (hq.set id (.arr (ints (o++nx x c)) 1 (nx x c).length)))
  (hI:∀x∈ns,I x) (hw:∀x c,(nx x c).length<=64) (hc0:0<=c) (hc6:c<6) (hnl:ns.length<=16777216) {k:KE R}:∀(j i m:Nat) (o:List Int) (len:Nat) (hi:i+j=ns.length) (hm:j<m) (ho:o.length<=64*i) (hlen:len=o.length),
  aM env (aA env L n) L 0 (W16 (W2 [2])) Bz2 (cW 2) (U2 (Z2 (U4 (U2 (Z2 (U1 (Z2 (Z1 (U1 (Z2 (U8 (U4 (U2 (Z2 (Z1 (U4 (U2 (U1 (Z2 (Z1 (U16 (U1 ([]))))))))))))))))))))))) m (Y2 (.d (.ivs ls.length (ints ls))::.d (.fn nf caps)::Y4 (Y2 (.d (.str [])::.d (.bool false)::Y1 (.ptr 0 0 0::.clo 126 [.ptr 1 0 0,.ptr 2 0 0,.ptr 0 0 0]::nI ii::Y1 (nI c::.sl 3 0 0 len::Y8 (Y4 (Y2 (.d (.ivs ls.length (ints ls))::nI (ls.length)::nI q::Y4 (Y2 (Y1 (.d (.ivs ns.length (ints ns))::nI (ns.length)::nI i::Y16 (Y1 ([])))))))))))))) [.box [.sl 4 0 0 sn],.box [.sl 5 0 0 size],.box [.d gb],.arr (ints o) 1 0,.arr sc 3 0,.arr (dE seen) 1 0] k
  =k (.exit 4) (Y2 (.d (.ivs ls.length (ints ls))::.d (.fn nf caps)::Y4 (Y2 (.d (.str [])::.d (.bool false)::Y1 (.ptr 0 0 0::.clo 126 [.ptr 1 0 0,.ptr 2 0 0,.ptr 0 0 0]::nI ii::Y1 (nI c::.sl 3 0 0 (o++flat nx (ns.drop i) c).length::Y8 (Y4 (Y2 (.d (.ivs ls.length (ints ls))::nI (ls.length)::nI q::Y4 (Y2 (Y1 (.d (.ivs ns.length (ints ns))::nI (ns.length)::nI (ns.length)::Y16 (Y1 ([])))))))))))))) [.box [.sl 4 0 0 sn],.box [.sl 5 0 0 size],.box [.d gb],.arr (ints (o++flat nx (ns.drop i) c)) 1 0,.arr sc 3 0,.arr (dE seen) 1 0]:=by
 intro j
 induction j with
 |zero=>
  intro i m o len hi hm ho hlen;obtain _|m:=m;omega;obtain rfl:i=ns.length:=by omega
  subst hlen;simp -implicitDefEqProofs (maxSteps:=2000000) (disch:=try exact Dz) only[↓DN,↓kRet,UP,simprocAttr,Aj,zX,wG,Tryz.f94];simp only[Ca,aLR,Ai,Ac,Br]
 |succ j ih=>
  intro i m o len hi hm ho hlen;obtain _|m:=m;omega;subst hlen;have hc:(i:Int)<ns.length:=by omega
  have hk:i<ns.length:=by omega
  have hmem:ns.getD i 0∈ns:=by rw[Aa,Ae hk];exact Az hk
  have hIx:=hI _ hmem;have hww:=hw (ns.getD i 0) c;have hob:o.length<=2147483648:=by omega
  have e4:((i+1:Nat):Int)=(i:Int)+1:=by omega
  have ih':=ih (i+1) m (o++nx (ns.getD i 0) c) (o.length+(nx (ns.getD i 0) c).length) (by omega) (by omega) (by rw[Af];omega) (by rw[Af]);rw[e4]at ih';rw[cB hk (d:=0)];simp only[aBv,<-Am];have kc_m:=fun {R:Type} {n id:Nat} {hq:H} {k:KA R} (h4:4<=n) (hg:hq[id]? =some (.arr (ints o) 1 0))=> @kc_n R n id hq k (ns.getD i 0) c o h4 hIx hc0 hc6 hob hg;clear ih hmem kc_n;generalize nx (ns.getD i 0) c=w at *;simp -implicitDefEqProofs (maxSteps:=2000000) (disch:=try exact Dz) only[↓DN,↓kRet,UP,simprocAttr,hc,↓kc_m,↓ih',zX,wG,Tryz.f94]
theorem O6:∀(ns:List Int) (s:List Bool) (f:List Int),f.length<=(visF ns s f).2.length
 | [],s,f=>Ab _
 |n::ns,s,f=>by
  unfold visF
  split
  ·exact O6 ns s f
  ·have:=O6 ns (s.set n.toNat true) (f++[n]);simp only[Af,Ad,Ac]at this;omega
theorem aEI{ns:List Int}{size:Nat}(h:ns≠[]):0<(visF ns (List.replicate size false) []).2.length:=by
 cases ns with
 |nil=>exact absurd rfl h
 |cons n ns=>
  have e:(List.replicate size false).getD n.toNat false=false:=by
   rw[Aa,List.getElem?_replicate]
   split<;>rfl
  unfold visF;rw[e];have:=O6 ns ((List.replicate size false).set n.toNat true) ([]++[n]);simp only[Af,Ad,Ac]at this;simp only[Ak,if_false];omega
theorem aME{k:KA R}(hn:4<=n)(hL:2^60<=L){I:Int->Prop}{gl:Int->Bool}{gf:FuncId}{caps:List D}{size:Nat}{p l:Int}{ns:List Int}(kc_g:∀ {R:Type} {n:Nat} {hq:H} {k:KA R} (x:Int),2<=n->I x->aZ env (aA env L n) hq gf (nI x::caps.map A.d) k=k (.d (.bool (gl x))) hq)(hI:∀x∈ns,I x)(hr:∀x,I x->0<=x/\x<size)(hsz:size<=4294967290)(hnl:ns.length<=4294967290)(hne:ns≠[]):
  CU env (aA env L n) [.box [.d (.fn gf caps)],.arr (dE (List.replicate size false)) 1 0,.arr [] 0 0,.box [.sl 1 0 0 size],.arr [] 0 0,.box [.sl 4 0 0 0]] 126 [.ptr 3 0 0,.ptr 0 0 0,.ptr 5 0 0] [nI p,nI l,.d (.ivs ns.length (ints ns))] k
  =k (.d (.bool (visG gl ns (List.replicate size false) [] false).2.2)) [.box [.d (.fn gf caps)],.arr (dE (visG gl ns (List.replicate size false) [] false).1) 1 0,.arr [] 0 0,.box [.sl 1 0 0 size],.arr (b8 [⟨p,l,(visG gl ns (List.replicate size false) [] false).2.1⟩]) 3 1,.box [.sl 4 1 0 1]]:=by
 have he:=aM6 (gl:=gl) (p:=p) (l:=l) hn hL (fun {R n hq k}=>kc_g) hI hr hsz hnl (List.replicate size false) (by simp) _ rfl (by have:=aEI (size:=size) hne;rw[(vQ gl ns _ [] false).2];omega);unfold CU;generalize List.replicate size false=sz at *;generalize hh:[O.box [.d (.fn gf caps)],.arr (dE sz) 1 0,.arr [] 0 0,.box [.sl 1 0 0 size],.arr [] 0 0,.box [.sl 4 0 0 0]]=h;have hre:aD aG h (idsL [A.ptr 3 0 0,.ptr 0 0 0,.ptr 5 0 0]++idsL [A.d (.int .i64 p),nI l,.d (.ivs ns.length (ints ns))]) []=[3,0,5,1,4]:=by subst hh;rfl
 have hpk:pack h [3,0,5,1,4]=[.box [.sl 3 0 0 size],.box [.d (.fn gf caps)],.box [.sl 4 0 0 0],.arr (dE sz) 1 0,.arr [] 0 0]:=by subst hh;rfl
 have hma:aE (aI [3,0,5,1,4]) [A.d (.int .i64 p),nI l,.d (.ivs ns.length (ints ns))]++aE (aI [3,0,5,1,4]) [A.ptr 3 0 0,.ptr 0 0 0,.ptr 5 0 0]=[nI p,nI l,.d (.ivs ns.length (ints ns)),.ptr 0 0 0,.ptr 1 0 0,.ptr 2 0 0]:=rfl
 have hca:∀h f args,bV (aA env L n) env.hint h f args=if(env.hint f).mode=0 then aA env L n f args h else bV (aA env L n) env.hint h f args:=by
  intro h f args
  split
  ·rename_i hm
   unfold bV;rw[hm];rfl
  ·rfl
 rw[hre,hpk,hma,hca,if_pos wZ,he];have hcl:closed h [3,0,5,1,4] (idsL [A.ptr 3 0 0,.ptr 0 0 0,.ptr 5 0 0]++idsL [A.d (.int .i64 p),nI l,.d (.ivs ns.length (ints ns))])=true:=by subst hh;rfl
 subst hh;simp only[hcl,Ad,Ac,Ab,and_self,if_true];rfl
def gV(r:List Bool×List Int×Bool):Nat:=if r.2.1=[]then 0 else 1
theorem aMr{k:KA R}(hn:4<=n)(hL:2^60<=L){I:Int->Prop}{gl:Int->Bool}{gf:FuncId}{caps:List D}{size:Nat}{p l:Int}{ns:List Int}(kc_g:∀ {R:Type} {n:Nat} {hq:H} {k:KA R} (x:Int),2<=n->I x->aZ env (aA env L n) hq gf (nI x::caps.map A.d) k=k (.d (.bool (gl x))) hq)(hI:∀x∈ns,I x)(hr:∀x,I x->0<=x/\x<size)(hsz:size<=4294967290)(hnl:ns.length<=4294967290)(seen:List Bool)(hs:seen.length=size)(st:List PStep)(hst:st.length<=4294967290):
  CU env (aA env L n) [.box [.sl 4 0 0 st.length],.box [.sl 5 0 0 size],.box [.d (.fn gf caps)],.arr (ints ns) 1 0,.arr (b8 st) 3 0,.arr (dE seen) 1 0] 126 [.ptr 1 0 0,.ptr 2 0 0,.ptr 0 0 0] [nI p,nI l,.sl 3 0 0 ns.length] k
  =k (.d (.bool (visG gl ns seen [] false).2.2)) [.box [.sl 4 (gV (visG gl ns seen [] false)) 0 (addP st p l (visG gl ns seen [] false).2.1).length],.box [.sl 5 0 0 size],.box [.d (.fn gf caps)],.arr (ints ns) 1 0,.arr (b8 (addP st p l (visG gl ns seen [] false).2.1)) 3 (gV (visG gl ns seen [] false)),.arr (dE (visG gl ns seen [] false).1) 1 0]:=by
 have he:=aNs (gl:=gl) (p:=p) (l:=l) hn hL (fun {R n hq k}=>kc_g) hI hr hsz hnl seen hs st hst _ rfl;unfold CU;generalize hh:[O.box [.sl 4 0 0 st.length],.box [.sl 5 0 0 size],.box [.d (.fn gf caps)],.arr (ints ns) 1 0,.arr (b8 st) 3 0,.arr (dE seen) 1 0]=h;have hre:aD aG h (idsL [A.ptr 1 0 0,.ptr 2 0 0,.ptr 0 0 0]++idsL [A.d (.int .i64 p),nI l,.sl 3 0 0 ns.length]) []=[1,2,0,3,5,4]:=by subst hh;rfl
 have hpk:pack h [1,2,0,3,5,4]=[.box [.sl 4 0 0 size],.box [.d (.fn gf caps)],.box [.sl 5 0 0 st.length],.arr (ints ns) 1 0,.arr (dE seen) 1 0,.arr (b8 st) 3 0]:=by subst hh;rfl
 have hma:aE (aI [1,2,0,3,5,4]) [A.d (.int .i64 p),nI l,.sl 3 0 0 ns.length]++aE (aI [1,2,0,3,5,4]) [A.ptr 1 0 0,.ptr 2 0 0,.ptr 0 0 0]=[nI p,nI l,.sl 3 0 0 ns.length,.ptr 0 0 0,.ptr 1 0 0,.ptr 2 0 0]:=rfl
 have hca:∀h f args,bV (aA env L n) env.hint h f args=if(env.hint f).mode=0 then aA env L n f args h else bV (aA env L n) env.hint h f args:=by
  intro h f args
  split
  ·rename_i hm
   unfold bV;rw[hm];rfl
  ·rfl
 rw[hre,hpk,hma,hca,if_pos wZ,he];have hcl:closed h [1,2,0,3,5,4] (idsL [A.ptr 1 0 0,.ptr 2 0 0,.ptr 0 0 0]++idsL [A.d (.int .i64 p),nI l,.sl 3 0 0 ns.length])=true:=by subst hh;rfl
 subst hh;simp only[hcl,Ad,Ac,Ab,and_self,if_true];rfl
end
def chG(ls:List Int)(w:Str):List Str:=ls.map fun l=>w++[cK l]
def lvG(ls:List Int):Nat->List Str
 |0=>[[]]
 |k+1=>(lvG ls k).flatMap (chG ls)
def midG(ls:List Int):Nat->List Str
 |0=>[[]]
 |k+1=>midG ls k++lvG ls (k+1)
theorem aGQ{ls:List Int}{w:Str}:(chG ls w).length=ls.length:=by simp[chG]
theorem Q5{ls:List Int}:∀k,(lvG ls k).length=ls.length^k
 |0=>rfl
 |k+1=>by
  have e:∀l:List Str,(l.flatMap (chG ls)).length=l.length*ls.length:=by
   intro l
   induction l with
   |nil=>simp
   |cons a l ih=>rw[List.flatMap_cons,Af,ih,aGQ,Ad,Bw];omega
  show((lvG ls k).flatMap (chG ls)).length=_;rw[e,Q5 k,Nat.pow_succ]
theorem DD{ls:List Int}:∀k,∀w∈lvG ls k,w.length=k/\∀b∈w,∃l∈ls,b=cK l
 |0,w,h=>by
  obtain rfl:w=[]:=by simpa [lvG]using h
  exact⟨rfl,by simp⟩
 |k+1,w,h=>by
  obtain⟨v,hv,hw⟩:=Dq.1 h;obtain⟨l,hl,rfl⟩:=Bq.1 hw;obtain⟨h1,h2⟩:=DD k v hv;refine⟨by simp[h1],fun b hb=> ?_⟩
  rcases Al.1 hb with hb|hb
  ·exact h2 b hb
  ·exact⟨l,hl,by simpa using hb⟩
theorem aA6{ls:List Int}:∀k,∀w∈midG ls k,w.length<=k/\∀b∈w,∃l∈ls,b=cK l
 |0,w,h=>by
  obtain rfl:w=[]:=by simpa [midG]using h
  exact⟨Ab _,by simp⟩
 |k+1,w,h=>by
  rcases Al.1 h with h|h
  ·obtain⟨h1,h2⟩:=aA6 k w h;exact⟨by omega,h2⟩
  ·obtain⟨h1,h2⟩:=DD (k+1) w h;exact⟨by omega,h2⟩
theorem aKd{ls:List Int}:∀k,∃p,midG ls k=p++lvG ls k
 |0=>⟨[],rfl⟩
 |k+1=>⟨midG ls k,rfl⟩
theorem BK{ls:List Int}(hl:ls.length<=6):∀k,k<=3->(midG ls k).length<=259:=by
 have h1:ls.length^1<=6^1:=Nat.pow_le_pow_left hl 1;have h2:ls.length^2<=6^2:=Nat.pow_le_pow_left hl 2;have h3:ls.length^3<=6^3:=Nat.pow_le_pow_left hl 3;intro k hk
 rcases(show k=0\/k=1\/k=2\/k=3 by omega)with rfl|rfl|rfl|rfl
 ·simp[midG]
 ·simp only[midG,Af,Q5,Cr,Ag];omega
 ·simp only[midG,Af,Q5,Cr,Ag,Nat.reduceAdd];omega
 ·simp only[midG,Af,Q5,Cr,Ag,Nat.reduceAdd];omega
def insW(ws:List Str)(w:Str):List Str:=if w∈ws then ws else ws++[w]
def c9(ws l:List Str):List Str:=l.foldl insW ws
def a7(ws:List Str)(w:Str):Nat:=ws.countP fun x=>decide (cmpX x w<0)
def ordW(ws:List Str)(w:Str):List Str:=if w∈ws then ws else ws.take (a7 ws w)++w::ws.drop (a7 ws w)
def gM(ws l:List Str):List Str:=l.foldl ordW ws
def m2(ws:List Str):Prop:=ws.Pairwise fun x y=>cmpX x y<0
theorem aJ7{ws:List Str}:c9 ws []=ws:=rfl
theorem KO{ws l:List Str}{w:Str}:c9 ws (w::l)=c9 (insW ws w) l:=rfl
theorem aIH{ws l m:List Str}:c9 ws (l++m)=c9 (c9 ws l) m:=by simp[c9]
theorem TK{ws l:List Str}{w:Str}:gM ws (w::l)=gM (ordW ws w) l:=rfl
theorem aIk{ws l m:List Str}:gM ws (l++m)=gM (gM ws l) m:=by simp[gM]
theorem aG7{ws:List Str}{w:Str}:ws.length<=(insW ws w).length/\(insW ws w).length<=ws.length+1:=by
 unfold insW;split<;>simp
theorem U3:∀ {l ws:List Str},ws.length<=(c9 ws l).length/\(c9 ws l).length<=ws.length+l.length
 | [],ws=>⟨Ab _,Ab _⟩
 |w::l,ws=>by
  have h1:=aG7 (ws:=ws) (w:=w);have h2:=U3 (l:=l) (ws:=insW ws w);rw[KO,Ad];omega
theorem aEN{ws:List Str}{w x:Str}:x∈insW ws w↔x∈ws\/x=w:=by
 unfold insW
 split
 ·rename_i h
  exact⟨.inl,fun h2=>h2.elim (fun h=>h) fun h2=>by rw[h2];exact h⟩
 ·simp
theorem QD{x:Str}:∀ {l ws:List Str},x∈c9 ws l↔x∈ws\/x∈l
 | [],ws=>by simp[aJ7]
 |w::l,ws=>by
  rw[KO,QD,aEN,At]
  constructor
  ·rintro((h|h)|h)
   ·exact .inl h
   ·exact .inr (.inl h)
   ·exact .inr (.inr h)
  ·rintro(h|h|h)
   ·exact .inl (.inl h)
   ·exact .inl (.inr h)
   ·exact .inr h
theorem uL:∀ {ws:List Str} (_:m2 ws) (w:Str) (i:Nat) (h:i<ws.length),cmpX ws[i] w<0↔i<a7 ws w
 | [],_,_,_,h=>by simp at h
 |a::ws,hs,w,i,h=>by
  obtain⟨h1,h2⟩:=List.pairwise_cons.1 hs;unfold a7;rw[Ds]
  by_cases ha:cmpX a w<0
  ·rw[if_pos (by simpa using ha)]
   cases i with
   |zero=>simp[ha]
   |succ i=>
    have:=uL h2 w i (by simpa using h);unfold a7 at this;rw[List.getElem_cons_succ,this];omega
  ·have h0:a7 ws w=0:=by
    unfold a7;rw[List.countP_eq_zero];intro x hx;have:=h1 x hx;simp only[decide_eq_true_eq];exact fun h3=>ha (qK this h3)
   rw[if_neg (by simpa using ha)];unfold a7 at h0;rw[h0]
   cases i with
   |zero=>simpa using ha
   |succ i=>
    rw[List.getElem_cons_succ];have:=h1 (ws[i]'(by simpa using h)) (Az _)
    constructor
    ·intro h3;exact(ha (qK this h3)).elim
    ·intro h3;omega
theorem aB2{ws:List Str}{w:Str}:a7 ws w<=ws.length:=List.countP_le_length
theorem aJ5{ws:List Str}(hs:m2 ws)(w:Str):(a7 ws w<ws.length/\ws.getD (a7 ws w) []=w)↔w∈ws:=by
 constructor
 ·rintro⟨h1,h2⟩;rw[Aa,Ae h1]at h2;have h2:ws[a7 ws w]=w:=h2;rw[<-h2];exact Az _
 ·intro hm;obtain⟨i,hi,rfl⟩:=Ck hm;have h1:¬i<a7 ws ws[i]:=fun h=>BX _ ((uL hs _ i hi).2 h)
  have h2:¬a7 ws ws[i]<i:=fun h=>by
   have h3:=List.pairwise_iff_getElem.1 hs (a7 ws ws[i]) i (by omega) hi h;have:=(uL hs ws[i] (a7 ws ws[i]) (by omega)).1 h3;omega
  have e:a7 ws ws[i]=i:=by omega
  refine⟨by omega,?_⟩;rw[e,Aa,Ae hi];rfl
theorem aB7{ws:List Str}(hs:m2 ws)(w:Str):m2 (ordW ws w):=by
 unfold ordW
 split
 ·exact hs
 ·rename_i hn
  have lt1:∀x∈ws.take (a7 ws w),cmpX x w<0:=by
   intro x hx;obtain⟨i,hi,rfl⟩:=Ck hx;rw[Bs]at hi;rw[List.getElem_take];exact(uL hs w i (by omega)).2 (by omega)
  have lt2:∀x∈ws.drop (a7 ws w),cmpX w x<0:=by
   intro x hx;obtain⟨i,hi,rfl⟩:=Ck hx;rw[Ce]at hi;rw[List.getElem_drop]
   have h1:¬cmpX ws[a7 ws w+i] w<0:=fun h=>by
    have:=(uL hs w (a7 ws w+i) (by omega)).1 h;omega
   rcases IW w ws[a7 ws w+i]with h|h|h
   ·exact(hn (by rw[h];exact Az _)).elim
   ·exact h
   ·exact(h1 h).elim
  unfold m2;rw[List.pairwise_append];refine⟨hs.sublist (List.take_sublist _ _),List.pairwise_cons.2 ⟨lt2,hs.sublist (List.drop_sublist _ _)⟩,fun x hx y hy=> ?_⟩
  rcases At.1 hy with rfl|hy
  ·exact lt1 x hx
  ·exact qK (lt1 x hx) (lt2 y hy)
theorem GZ:∀ {l ws:List Str},m2 ws->m2 (gM ws l)
 | [],_,h=>h
 |w::l,ws,h=>by rw[TK];exact GZ (l:=l) (ws:=ordW ws w) (aB7 h w)
theorem TP{ws vs:List Str}(h:ws.Perm vs)(w:Str):(ordW ws w).Perm (insW vs w):=by
 unfold ordW insW
 by_cases hm:w∈ws
 ·rw[if_pos hm,if_pos (h.mem_iff.1 hm)];exact h
 ·rw[if_neg hm,if_neg fun h2=>hm (h.mem_iff.2 h2)];refine List.perm_middle.trans ?_;rw[List.take_append_drop];refine(h.cons w).trans ?_;exact(List.perm_append_singleton w vs).symm
theorem yG:∀ {l ws vs:List Str},ws.Perm vs->(gM ws l).Perm (c9 vs l)
 | [],_,_,h=>h
 |w::l,ws,vs,h=>by rw[TK,KO];exact yG (l:=l) (TP h w)
theorem aLa{ws:List Str}{w:Str}:ws.length<=(ordW ws w).length/\(ordW ws w).length<=ws.length+1:=by
 have h:=(TP (List.Perm.refl ws) w).length_eq;have:=aG7 (ws:=ws) (w:=w);omega
theorem aIi{l ws:List Str}:ws.length<=(gM ws l).length:=by
 have h:=(yG (l:=l) (List.Perm.refl ws)).length_eq;have:=(U3 (l:=l) (ws:=ws)).1;omega
theorem aK7{l:List Str}(h:m2 l):l.Pairwise fun x y=>leX x y=true:=h.imp fun h=>aJm h
theorem aHQ{l m:List Str}(hl:m2 l)(h:m.Perm l):m.mergeSort leX=l:=by
 refine((List.mergeSort_perm m leX).trans h).eq_of_pairwise (fun x y _ _ h1 h2=>UE h1 h2) ?_ (aK7 hl);exact List.pairwise_mergeSort F9 EW _
def endL(c m:Str)(ends:List Str):List Str:=ends.map fun e=>c++m++e
def midL(c:Str)(mids ends:List Str):List Str:=mids.flatMap fun m=>endL c m ends
def covL(cov mids ends:List Str):List Str:=cov.flatMap fun c=>midL c mids ends
def optF(f:Str->List Str->Bool×List Str):List Str->List Str->Option (List Str)
 | [],o=>some o
 |w::l,o=>if(f w o).1=true then optF f l (f w o).2 else none
def run3(f:Str->List Str->Bool×List Str)(ws:List Str):Nat->Nat->List Str->Bool×Nat×List Str
 |0,q,o=>(true,q,o)
 |j+1,q,o=>if(f (ws.getD q []) o).1=true then run3 f ws j (q+1) (f (ws.getD q []) o).2 else(false,q,(f (ws.getD q []) o).2)
theorem KL{f:Str->List Str->Bool×List Str}{ws:List Str}:∀(j q:Nat) (o:List Str),q+j=ws.length->optF f (ws.drop q) o=if(run3 f ws j q o).1=true then some (run3 f ws j q o).2.2 else none
 |0,q,o,h=>by
  obtain rfl:q=ws.length:=by omega
  rw[Ca];rfl
 |j+1,q,o,h=>by
  have hq:q<ws.length:=by omega
  have e:ws.drop q=ws.getD q []::ws.drop (q+1):=by
   rw[Dn hq,Aa,Ae hq];rfl
  rw[e];unfold optF run3
  by_cases hf:(f (ws.getD q []) o).1=true
  ·rw[if_pos hf,if_pos hf,KL j (q+1) _ (by omega)]
  ·rw[if_neg hf,if_neg hf,if_neg Bool.false_ne_true]
theorem xH{f:Str->List Str->Bool×List Str}{ws:List Str}{j q:Nat}{o:List Str}(h:(f (ws.getD q []) o).1=true):run3 f ws (j+1) q o=run3 f ws j (q+1) (f (ws.getD q []) o).2:=if_pos h
theorem BQ{f:Str->List Str->Bool×List Str}{ws:List Str}{j q:Nat}{o:List Str}(h:(f (ws.getD q []) o).1=false):run3 f ws (j+1) q o=(false,q,(f (ws.getD q []) o).2):=if_neg (by rw[h];exact Bool.false_ne_true)
theorem BY{f:Str->List Str->Bool×List Str}{g:Str->List Str}{ins:List Str->List Str->List Str}(h0:∀o,ins o []=o)(happ:∀o l m,ins o (l++m)=ins (ins o l) m)(hle:∀o l,o.length<=(ins o l).length)
  (hf:∀w o,o.length<=3000->if 3000<(ins o (g w)).length then(f w o).1=false else f w o=(true,ins o (g w))):∀(ws o:List Str),o.length<=3000->optF f ws o=if 3000<(ins o (ws.flatMap g)).length then none else some (ins o (ws.flatMap g))
 | [],o,h=>by
  rw[List.flatMap_nil,h0,if_neg (by omega)];rfl
 |w::ws,o,h=>by
  have hw:=hf w o h;rw[List.flatMap_cons,happ];unfold optF
  by_cases hc:3000<(ins o (g w)).length
  ·rw[if_pos hc]at hw;rw[hw,if_neg Bool.false_ne_true,if_pos];have:=hle (ins o (g w)) (ws.flatMap g);omega
  ·rw[if_neg hc]at hw;rw[hw,if_pos rfl];exact BY h0 happ hle hf ws _ (Nat.le_of_not_lt hc)
theorem N0{f:Str->List Str->Bool×List Str}{ws o z:List Str}(h:optF f ws o=if 3000<z.length then none else some z):if 3000<z.length then(run3 f ws ws.length 0 o).1=false else((run3 f ws ws.length 0 o).1,(run3 f ws ws.length 0 o).2.2)=(true,z):=by
 have e:=KL (f:=f) (ws:=ws) ws.length 0 o (by omega);rw[Bc,h]at e
 by_cases hc:3000<z.length
 ·rw[if_pos hc]at e|-
  cases hb:(run3 f ws ws.length 0 o).1 with
  |false=>rfl
  |true=>rw[hb,if_pos rfl]at e;cases e
 ·rw[if_neg hc]at e|-
  cases hb:(run3 f ws ws.length 0 o).1 with
  |false=>rw[hb,if_neg Bool.false_ne_true]at e;cases e
  |true=>rw[hb,if_pos rfl]at e;injection e with e;rw[e]
def midF(c:Str)(ends:List Str)(m:Str)(o:List Str):Bool×List Str:=(!decide (3000<(c9 o (endL c m ends)).length),c9 o (endL c m ends))
def covF(mids ends:List Str)(c:Str)(o:List Str):Bool×List Str:=((run3 (midF c ends) mids mids.length 0 o).1,(run3 (midF c ends) mids mids.length 0 o).2.2)
def endS(c m:Str)(e:Str)(o:List Str):Bool×List Str:=(!decide (3000<(ordW o (c++m++e)).length),ordW o (c++m++e))
def midZ(c:Str)(ends:List Str)(m:Str)(o:List Str):Bool×List Str:=((run3 (endS c m) ends ends.length 0 o).1,(run3 (endS c m) ends ends.length 0 o).2.2)
def covZ(mids ends:List Str)(c:Str)(o:List Str):Bool×List Str:=((run3 (midZ c ends) mids mids.length 0 o).1,(run3 (midZ c ends) mids mids.length 0 o).2.2)
theorem aGT{cov mids ends:List Str}:optF (covF mids ends) cov []=if 3000<(c9 [] (covL cov mids ends)).length then none else some (c9 [] (covL cov mids ends)):=by
 have ok:(∀o,c9 o []=o)/\(∀o l m,c9 o (l++m)=c9 (c9 o l) m)/\∀o l,o.length<=(c9 o l).length:=⟨fun _=>rfl,fun _ _ _=>aIH,fun _ _=>U3.1⟩
 refine BY ok.1 ok.2.1 ok.2.2 (fun c o ho=>N0 (BY ok.1 ok.2.1 ok.2.2 (fun m o ho=> ?_) mids o ho)) cov [] (by simp);unfold midF
 split<;>simp[*]
theorem aMT{cov mids ends:List Str}:optF (covZ mids ends) cov []=if 3000<(gM [] (covL cov mids ends)).length then none else some (gM [] (covL cov mids ends)):=by
 have ok:(∀o,gM o []=o)/\(∀o l m,gM o (l++m)=gM (gM o l) m)/\∀o l,o.length<=(gM o l).length:=⟨fun _=>rfl,fun _ _ _=>aIk,fun _ _=>aIi⟩
 refine BY ok.1 ok.2.1 ok.2.2 (fun c o ho=>N0 (BY ok.1 ok.2.1 ok.2.2 (fun m o ho=>N0 ?_) mids o ho)) cov [] (by simp)
 have e:endL c m ends=ends.flatMap fun e=>[c++m++e]:=by unfold endL;induction ends with
  |nil=>rfl
  |cons x l ih=>simp only[Ah,List.flatMap_cons,ih,Eb]
 rw[e];refine BY ok.1 ok.2.1 ok.2.2 (fun e o ho=> ?_) ends o ho;have e1:gM o [c++m++e]=ordW o (c++m++e):=rfl;unfold endS;rw[e1]
 split<;>rename_i hc<;>simp only[hc,decide_true,decide_false,Bool.not_true,Bool.not_false]
def qE(cov mids ends:List Str):Option (List Str):=if 3000<(gM [] (covL cov mids ends)).length then none else some (gM [] (covL cov mids ends))
theorem aH8{cov mids ends:List Str}:(optF (covF mids ends) cov []).map (fun ws=>ws.mergeSort leX)=qE cov mids ends:=by
 rw[aGT];unfold qE;have hp:=yG (l:=covL cov mids ends) (List.Perm.refl []);rw[hp.length_eq]
 split
 ·rfl
 ·rw[Ax,aHQ (GZ List.Pairwise.nil) hp.symm]
theorem aJD{cov mids ends l:List Str}(h:qE cov mids ends=some l)(x:Str):x∈l↔∃c∈cov,∃m∈mids,∃e∈ends,x=c++m++e:=by
 unfold qE at h
 split at h
 ·cases h
 ·cases h;rw[(yG (l:=covL cov mids ends) (List.Perm.refl [])).mem_iff,QD]
  simp only[Bn,false_or,covL,midL,endL,Dq,Bq]
  constructor
  ·rintro⟨c,hc,m,hm,e,he,rfl⟩;exact⟨c,hc,m,hm,e,he,rfl⟩
  ·rintro⟨c,hc,m,hm,e,he,rfl⟩;exact⟨c,hc,m,hm,e,he,rfl⟩
theorem aLy{cov mids ends l:List Str}(h:qE cov mids ends=some l):m2 l/\l.length<=3000:=by
 unfold qE at h
 split at h
 ·cases h
 ·cases h;exact⟨GZ List.Pairwise.nil,by omega⟩
section
variable{R:Type}{L n:Nat}
def badQ(n:Int)(r:List Int)(i:Nat):Bool:=!(decide (0<=r.getD i 0)&&decide (r.getD i 0<n))
def zW(w n:Int)(r:List Int):Bool:=!decide ((r.length:Int)=w)||(seek (badQ n r) r.length 0).isSome
def fP(w n:Int)(rs:List (List Int))(i:Nat):Bool:=zW w n (rs.getD i [])
def dF(al:Int)(rs:List (List Int))(ac:List Bool):Bool:=
 jB al&&decide ((1:Int)<=rs.length)&&decide ((rs.length:Int)<=12)&&decide ((ac.length:Int)=rs.length)&&(seek (fP (aB al).length rs.length rs) rs.length 0).isNone
theorem aFE{w n:Int}{r:List Int}(h:¬(r.length:Int)=w):zW w n r=true:=by
 unfold zW;rw[decide_eq_false h];rfl
theorem J0{w n:Int}{r:List Int}(h:(r.length:Int)=w):zW w n r=(seek (badQ n r) r.length 0).isSome:=by
 unfold zW;rw[decide_eq_true h];rfl
theorem FJ{n:Int}{r:List Int}{i:Nat}:badQ n r i=true↔¬(0<=r.getD i 0/\r.getD i 0<n):=by
 unfold badQ;simp only[De,Bool.and_eq_false_iff,decide_eq_false_iff_not];omega
theorem u3{n:Int}{r:List Int}{i:Nat}:badQ n r i=false↔(0<=r.getD i 0/\r.getD i 0<n):=by
 unfold badQ;simp only[Bool.not_eq_false',Aq,decide_eq_true_eq]
theorem aFF{R:Type}{L nn:Nat}(hn:1<=nn){n:Int}{r:List Int}(hl:r.length<=4294967296){k:KE R}:∀(j:Nat) (i:Int) (m:Nat) (h0:0<=i) (hi:i+j=r.length) (hm:j<m),
  aM env (aA env L nn) L 0 [] Bz29 (vK 0) (Z1 (U1 (Z1 (U2 (U1 (Z2 (U16 (U4 (U2 (U1 ([]))))))))))) m (.d (.ivs r.length (ints r))::Y1 (nI n::Y2 (Y1 (.d (.bool false)::nI i::Y16 (Y4 (Y2 (Y1 ([])))))))) [] k
  =match seek (badQ n r) j i.toNat with
   |none=>k (.exit 0) (.d (.ivs r.length (ints r))::Y1 (nI n::Y2 (Y1 (.d (.bool false)::nI (r.length)::Y16 (Y4 (Y2 (Y1 ([])))))))) []
   |some q=>k .ret (.d (.ivs r.length (ints r))::Y1 (nI n::Y2 (Y1 (.d (.bool false)::nI q::Y16 (Y4 (Y2 (Y1 ([])))))))) []:=by
 intro j
 induction j with
 |zero=>
  intro i m h0 hi hm;obtain _|m:=m;omega;obtain rfl:i=r.length:=by omega
  simp -implicitDefEqProofs (maxSteps:=2000000) (disch:=try exact Dz) only[↓DN,↓kRet,UP,simprocAttr,Aj,rI,sK,Tryz.f71];rfl
 |succ j ih=>
  intro i m h0 hi hm;obtain _|m:=m;omega;have hc:i<r.length:=by omega
  have hk:i.toNat<r.length:=by omega
  have e1:(i+1).toNat=i.toNat+1:=by omega
  have e3:((i.toNat:Nat):Int)=i:=by omega
  by_cases h1:r.getD i.toNat 0<0
  ·have hb:badQ n r i.toNat=true:=by rw[FJ];omega
   rw[j4 hb];simp -implicitDefEqProofs (maxSteps:=2000000) (disch:=try exact Dz) only[↓DN,↓kAsg,↓kRet,UP,simprocAttr,hc,h1,e3,rI,sK,Tryz.f71]
  ·by_cases h2:n<=r.getD i.toNat 0
   ·have hb:badQ n r i.toNat=true:=by rw[FJ];omega
    rw[j4 hb];simp -implicitDefEqProofs (maxSteps:=2000000) (disch:=try exact Dz) only[↓DN,↓kAsg,↓kRet,UP,simprocAttr,hc,h1,h2,e3,rI,sK,Tryz.f71]
   ·have hb:badQ n r i.toNat=false:=by rw[u3];omega
    rw[nH hb];simp -implicitDefEqProofs (maxSteps:=2000000) (disch:=try exact Dz) only[↓DN,↓kRet,UP,simprocAttr,hc,h1,h2,↓ih,e1,rI,sK,Tryz.f71]
theorem XB(hn:2<=n)(r:List Int)(w q:Int)(hl:r.length<=4294967296)(hL:2^60<=L):aA env L n 71 [.d (.ivs r.length (ints r)),nI w,nI q] []=some (.d (.bool (!zW w q r)),[]):=by
 unfold zW
 by_cases h1:(r.length:Int)=w
 ·have loop_a:=fun {R:Type} {n:Nat} (hn:1<=n) {k:KE R}=>aFF (R:=R) (L:=L) (nn:=n) hn (n:=q) hl (k:=k) r.length 0 L (by omega) (by omega) (by omega);simp only[Int.toNat_zero]at loop_a
  cases hs:seek (badQ q r) r.length 0 with
  |none=>
   rw[hs]at loop_a;obtain _|n:=n;omega;simp -implicitDefEqProofs (maxSteps:=2000000) (disch:=try exact Dz) only[↓DN,↓kAsg,↓kRet,UP,simprocAttr,h1,↓loop_a,JH,FR,Tryz.f71]
  |some z=>
   rw[hs]at loop_a;obtain _|n:=n;omega;simp -implicitDefEqProofs (maxSteps:=2000000) (disch:=try exact Dz) only[↓DN,↓kAsg,↓kRet,UP,simprocAttr,h1,↓loop_a,JH,FR,Tryz.f71]
 ·obtain _|n:=n;omega;simp -implicitDefEqProofs (maxSteps:=2000000) (disch:=try exact Dz) only[↓DN,↓kAsg,↓kRet,UP,simprocAttr,h1,JH,FR,Tryz.f71]
theorem ZT:type_of% fun {L} r w q hl hL=>ks fun hn=> @XB L _ hn r w q hl hL:=fun {L} r w q hl hL=>ks fun hn=> @XB L _ hn r w q hl hL
theorem IF(hL:2^60<=L)(hn:3<=n){al:Int}{rs:List (List Int)}{ac:List Bool}(hs:bF rs){k:KE R}:∀(j:Nat) (i:Int) (m:Nat) (h0:0<=i) (hi:i+j=rs.length) (hm:j<m),
  aM env (aA env L n) L 0 [] Bz48 (iE 0) (U1 (Z4 (U32 (U4 (U2 (U1 ([]))))))) m (Y1 (.ptr 0 0 0::.d (.bool false)::nI (rs.length)::nI i::Y32 (Y4 (Y2 (Y1 ([])))))) [.box [nI al,.d (.ivs rs.length (aN rs)),.d (.ivs ac.length (aJ ac))]] k
  =match seek (fP (aB al).length rs.length rs) j i.toNat with
   |none=>k (.exit 0) (Y1 (.ptr 0 0 0::.d (.bool false)::nI (rs.length)::nI (rs.length)::Y32 (Y4 (Y2 (Y1 ([])))))) [.box [nI al,.d (.ivs rs.length (aN rs)),.d (.ivs ac.length (aJ ac))]]
   |some q=>k .ret (Y1 (.ptr 0 0 0::.d (.bool false)::nI (rs.length)::nI q::Y32 (Y4 (Y2 (Y1 ([])))))) [.box [nI al,.d (.ivs rs.length (aN rs)),.d (.ivs ac.length (aJ ac))]]:=by
 intro j;have hrl:=hs.1;have hll:=bX al
 induction j with
 |zero=>
  intro i m h0 hi hm;obtain _|m:=m;omega;obtain rfl:i=rs.length:=by omega
  simp -implicitDefEqProofs (maxSteps:=2000000) (disch:=try exact Dz) only[↓DN,↓kRet,UP,simprocAttr,Aj,kD,jN,Tryz.f35];rfl
 |succ j ih=>
  intro i m h0 hi hm;obtain _|m:=m;omega;have hc:i<rs.length:=by omega
  have hk:i.toNat<rs.length:=by omega
  have hrow:=nO hs hk;have e1:(i+1).toNat=i.toNat+1:=by omega
  have e3:((i.toNat:Nat):Int)=i:=by omega
  cases hb:fP (aB al).length rs.length rs i.toNat with
  |true=>
   rw[j4 hb];unfold fP at hb;simp -implicitDefEqProofs (maxSteps:=2000000) (disch:=try exact Dz) only[↓DN,↓kAsg,↓kRet,UP,simprocAttr,↓fR,↓ZT,LA,hc,hb,e3,kD,jN,Tryz.f35]
  |false=>
   rw[nH hb];unfold fP at hb;simp -implicitDefEqProofs (maxSteps:=2000000) (disch:=try exact Dz) only[↓DN,↓kRet,UP,simprocAttr,↓fR,↓ZT,LA,hc,hb,↓ih,e1,kD,jN,Tryz.f35]
theorem wY(hn:4<=n)(al:Int)(rs:List (List Int))(ac:List Bool)(hs:bF rs)(ha:ac.length<=4294967296)(hL:2^60<=L):aA env L n 35 [.agg [nI al,.d (.ivs rs.length (aN rs)),.d (.ivs ac.length (aJ ac))]] []=some (.d (.bool (dF al rs ac)),[]):=by
 have hrl:=hs.1;have loop_a:=fun {R:Type} {n:Nat} (hn:3<=n) {k:KE R}=>IF (R:=R) (L:=L) hL hn (al:=al) (ac:=ac) hs (k:=k) rs.length 0 L (by omega) (by omega) (by omega);simp only[Int.toNat_zero]at loop_a;unfold dF
 cases hq:jB al with
 |false=>
  obtain _|n:=n;omega;simp -implicitDefEqProofs (maxSteps:=2000000) (disch:=try exact Dz) only[↓DN,↓kAsg,↓kRet,UP,simprocAttr,↓i8,hq,fE,eN,Tryz.f35]
 |true=>
  by_cases h1:(1:Int)<=rs.length
  ·have n1:¬(rs.length:Int)<1:=by omega
   by_cases h2:(rs.length:Int)<=12
   ·have n2:¬(12:Int)<rs.length:=by omega
    by_cases h3:(ac.length:Int)=rs.length
    ·cases hk:seek (fP (aB al).length rs.length rs) rs.length 0 with
     |none=>
      rw[hk]at loop_a;obtain _|n:=n;omega;simp -implicitDefEqProofs (maxSteps:=2000000) (disch:=try exact Dz) only[↓DN,↓kAsg,↓kRet,UP,simprocAttr,↓i8,hq,h1,n1,h2,n2,h3,↓loop_a,fE,eN,Tryz.f35]
     |some z=>
      rw[hk]at loop_a;obtain _|n:=n;omega;simp -implicitDefEqProofs (maxSteps:=2000000) (disch:=try exact Dz) only[↓DN,↓kAsg,↓kRet,UP,simprocAttr,↓i8,hq,h1,n1,h2,n2,h3,↓loop_a,fE,eN,Tryz.f35]
    ·obtain _|n:=n;omega;simp -implicitDefEqProofs (maxSteps:=2000000) (disch:=try exact Dz) only[↓DN,↓kAsg,↓kRet,UP,simprocAttr,↓i8,hq,h1,n1,h2,n2,h3,fE,eN,Tryz.f35]
   ·have n2:(12:Int)<rs.length:=by omega
    obtain _|n:=n;omega;simp -implicitDefEqProofs (maxSteps:=2000000) (disch:=try exact Dz) only[↓DN,↓kAsg,↓kRet,UP,simprocAttr,↓i8,hq,h1,n1,h2,n2,fE,eN,Tryz.f35]
  ·have n1:(rs.length:Int)<1:=by omega
   obtain _|n:=n;omega;simp -implicitDefEqProofs (maxSteps:=2000000) (disch:=try exact Dz) only[↓DN,↓kAsg,↓kRet,UP,simprocAttr,↓i8,hq,h1,n1,fE,eN,Tryz.f35]
theorem bP:type_of% fun {L} al rs ac hs ha hL=>ks fun hn=> @wY L _ hn al rs ac hs ha hL:=fun {L} al rs ac hs ha hL=>ks fun hn=> @wY L _ hn al rs ac hs ha hL
theorem EN(hL:2^60<=L)(hn:3<=n){al q w:Int}{rs:List (List Int)}{ac:List Bool}(hs:bF rs){r:List Int}(hr:r.length<=4294967296){k:KE R}:∀(j:Nat) (i:Int) (m:Nat) (h0:0<=i) (hi:i+j=r.length) (hm:j<m),
  aM env (aA env L n) L 0 [] Bz7 (c7 1) (U1 (Z2 (Z1 (U32 (U2 (Z2 (Z1 (U4 (U2 (U1 (Z2 (Z1 (U8 (U4 (U2 ([])))))))))))))))) m (Y1 (.ptr 0 0 0::.d (.bool false)::nI w::Y32 (Y2 (.d (.ivs rs.length (aN rs))::nI (rs.length)::nI q::Y4 (Y2 (Y1 (.d (.ivs r.length (ints r))::nI (r.length)::nI i::Y8 (Y4 (Y2 ([])))))))))) [.box [nI al,.d (.ivs rs.length (aN rs)),.d (.ivs ac.length (aJ ac))]] k
  =match seek (badQ rs.length r) j i.toNat with
   |none=>k (.exit 2) (Y1 (.ptr 0 0 0::.d (.bool false)::nI w::Y32 (Y2 (.d (.ivs rs.length (aN rs))::nI (rs.length)::nI q::Y4 (Y2 (Y1 (.d (.ivs r.length (ints r))::nI (r.length)::nI (r.length)::Y8 (Y4 (Y2 ([])))))))))) [.box [nI al,.d (.ivs rs.length (aN rs)),.d (.ivs ac.length (aJ ac))]]
   |some z=>k .ret (Y1 (.ptr 0 0 0::.d (.bool false)::nI w::Y32 (Y2 (.d (.ivs rs.length (aN rs))::nI (rs.length)::nI q::Y4 (Y2 (Y1 (.d (.ivs r.length (ints r))::nI (r.length)::nI z::Y8 (Y4 (Y2 ([])))))))))) [.box [nI al,.d (.ivs rs.length (aN rs)),.d (.ivs ac.length (aJ ac))]]:=by
 intro j;have hrl:=hs.1
 induction j with
 |zero=>
  intro i m h0 hi hm;obtain _|m:=m;omega;obtain rfl:i=r.length:=by omega
  simp -implicitDefEqProofs (maxSteps:=2000000) (disch:=try exact Dz) only[↓DN,↓kRet,UP,simprocAttr,Aj,hZ,gP,Tryz.f30];rfl
 |succ j ih=>
  intro i m h0 hi hm;obtain _|m:=m;omega;have hc:i<r.length:=by omega
  have hk:i.toNat<r.length:=by omega
  have e1:(i+1).toNat=i.toNat+1:=by omega
  have e3:((i.toNat:Nat):Int)=i:=by omega
  by_cases h1:r.getD i.toNat 0<0
  ·have hb:badQ rs.length r i.toNat=true:=by rw[FJ];omega
   rw[j4 hb];simp -implicitDefEqProofs (maxSteps:=2000000) (disch:=try exact Dz) only[↓DN,↓kAsg,↓kRet,UP,simprocAttr,hc,h1,e3,hZ,gP,Tryz.f30]
  ·by_cases h2:(rs.length:Int)<=r.getD i.toNat 0
   ·have hb:badQ rs.length r i.toNat=true:=by rw[FJ];omega
    rw[j4 hb];simp -implicitDefEqProofs (maxSteps:=2000000) (disch:=try exact Dz) only[↓DN,↓kAsg,↓kRet,UP,simprocAttr,hc,h1,h2,e3,hZ,gP,Tryz.f30]
   ·have hb:badQ rs.length r i.toNat=false:=by rw[u3];omega
    rw[nH hb];simp -implicitDefEqProofs (maxSteps:=2000000) (disch:=try exact Dz) only[↓DN,↓kRet,UP,simprocAttr,hc,h1,h2,↓ih,e1,hZ,gP,Tryz.f30]
theorem EO(hL:2^60<=L)(hn:3<=n){al:Int}{rs:List (List Int)}{ac:List Bool}(hs:bF rs){k:KE R}:∀(j:Nat) (i:Int) (m:Nat) (h0:0<=i) (hi:i+j=rs.length) (hm:j<m),
  aM env (aA env L n) L 0 [] Bz7 (c7 0) (U1 (Z2 (Z1 (U32 (U2 (Z2 (Z1 (U16 (U8 ([])))))))))) m (Y1 (.ptr 0 0 0::.d (.bool false)::nI ((aB al).length)::Y32 (Y2 (.d (.ivs rs.length (aN rs))::nI (rs.length)::nI i::Y16 (Y8 ([])))))) [.box [nI al,.d (.ivs rs.length (aN rs)),.d (.ivs ac.length (aJ ac))]] k
  =match seek (fP (aB al).length rs.length rs) j i.toNat with
   |none=>k (.exit 0) (Y1 (.ptr 0 0 0::.d (.bool false)::nI ((aB al).length)::Y32 (Y2 (.d (.ivs rs.length (aN rs))::nI (rs.length)::nI (rs.length)::Y16 (Y8 ([])))))) [.box [nI al,.d (.ivs rs.length (aN rs)),.d (.ivs ac.length (aJ ac))]]
   |some q=>k .ret (Y1 (.ptr 0 0 0::.d (.bool false)::nI ((aB al).length)::Y32 (Y2 (.d (.ivs rs.length (aN rs))::nI (rs.length)::nI q::Y16 (Y8 ([])))))) [.box [nI al,.d (.ivs rs.length (aN rs)),.d (.ivs ac.length (aJ ac))]]:=by
 intro j;have hrl:=hs.1;have hll:=bX al
 induction j with
 |zero=>
  intro i m h0 hi hm;obtain _|m:=m;omega;obtain rfl:i=rs.length:=by omega
  simp -implicitDefEqProofs (maxSteps:=2000000) (disch:=try exact Dz) only[↓DN,↓kRet,UP,simprocAttr,Aj,iD,gT,Tryz.f30];rfl
 |succ j ih=>
  intro i m h0 hi hm;obtain _|m:=m;omega;have hc:i<rs.length:=by omega
  have hk:i.toNat<rs.length:=by omega
  have hrow:=nO hs hk;have e1:(i+1).toNat=i.toNat+1:=by omega
  have e3:((i.toNat:Nat):Int)=i:=by omega
  have loop_a:=fun {R:Type} {k:KE R}=>EN (R:=R) (n:=n) (L:=L) hL hn (al:=al) (q:=i) (w:=(aB al).length) (ac:=ac) hs hrow (k:=k) (rs.getD i.toNat []).length 0 L (by omega) (by omega) (by omega);simp only[Int.toNat_zero]at loop_a
  cases hb:fP (aB al).length rs.length rs i.toNat with
  |true=>
   rw[j4 hb];unfold fP at hb
   by_cases hw:((rs.getD i.toNat []).length:Int)=(aB al).length
   ·have hwd:decide (((rs.getD i.toNat []).length:Int)=(aB al).length)=true:=decide_eq_true hw
    cases hz:seek (badQ rs.length (rs.getD i.toNat [])) (rs.getD i.toNat []).length 0 with
    |none=>rw[J0 hw,hz]at hb;cases hb
    |some z=>
     rw[hz]at loop_a;clear ih hb;simp -implicitDefEqProofs (maxSteps:=2000000) (disch:=try exact Dz) only[↓DN,↓kRet,UP,simprocAttr,LA,hc,hwd,↓loop_a,e3,iD,gT,Tryz.f30]
   ·clear ih hb loop_a;simp -implicitDefEqProofs (maxSteps:=2000000) (disch:=try exact Dz) only[↓DN,↓kAsg,↓kRet,UP,simprocAttr,LA,hc,hw,e3,iD,gT,Tryz.f30]
  |false=>
   rw[nH hb];unfold fP at hb
   by_cases hw:((rs.getD i.toNat []).length:Int)=(aB al).length
   ·have hwd:decide (((rs.getD i.toNat []).length:Int)=(aB al).length)=true:=decide_eq_true hw
    cases hz:seek (badQ rs.length (rs.getD i.toNat [])) (rs.getD i.toNat []).length 0 with
    |none=>
     rw[hz]at loop_a;clear hb;simp -implicitDefEqProofs (maxSteps:=2000000) (disch:=try exact Dz) only[↓DN,↓kRet,UP,simprocAttr,LA,hc,hwd,↓loop_a,↓ih,e1,iD,gT,Tryz.f30]
    |some z=>rw[J0 hw,hz]at hb;cases hb
   ·rw[aFE hw]at hb;cases hb
theorem wT(hn:4<=n)(al:Int)(rs:List (List Int))(ac:List Bool)(hs:bF rs)(ha:ac.length<=4294967296)(hL:2^60<=L):aA env L n 30 [.agg [nI al,.d (.ivs rs.length (aN rs)),.d (.ivs ac.length (aJ ac))]] []=some (.d (.bool (dF al rs ac)),[]):=by
 have hrl:=hs.1;have hll:=bX al;have loop_a:=fun {R:Type} {n:Nat} (hn:3<=n) {k:KE R}=>EO (R:=R) (L:=L) hL hn (al:=al) (ac:=ac) hs (k:=k) rs.length 0 L (by omega) (by omega) (by omega);simp only[Int.toNat_zero]at loop_a;unfold dF
 cases hq:jB al with
 |false=>
  obtain _|n:=n;omega;simp -implicitDefEqProofs (maxSteps:=2000000) (disch:=try exact Dz) only[↓DN,↓kAsg,↓kRet,UP,simprocAttr,↓dY,hq,fD,eR,Tryz.f30]
 |true=>
  by_cases h1:(1:Int)<=rs.length
  ·have n1:¬(rs.length:Int)<1:=by omega
   by_cases h2:(rs.length:Int)<=12
   ·have n2:¬(12:Int)<rs.length:=by omega
    by_cases h3:(ac.length:Int)=rs.length
    ·cases hk:seek (fP (aB al).length rs.length rs) rs.length 0 with
     |none=>
      rw[hk]at loop_a;obtain _|n:=n;omega;simp -implicitDefEqProofs (maxSteps:=2000000) (disch:=try exact Dz) only[↓DN,↓kAsg,↓kRet,UP,simprocAttr,↓dY,↓jY,hq,h1,n1,h2,n2,h3,↓loop_a,fD,eR,Tryz.f30]
     |some z=>
      rw[hk]at loop_a;obtain _|n:=n;omega;simp -implicitDefEqProofs (maxSteps:=2000000) (disch:=try exact Dz) only[↓DN,↓kAsg,↓kRet,UP,simprocAttr,↓dY,↓jY,hq,h1,n1,h2,n2,h3,↓loop_a,fD,eR,Tryz.f30]
    ·obtain _|n:=n;omega;simp -implicitDefEqProofs (maxSteps:=2000000) (disch:=try exact Dz) only[↓DN,↓kAsg,↓kRet,UP,simprocAttr,↓dY,hq,h1,n1,h2,n2,h3,fD,eR,Tryz.f30]
   ·have n2:(12:Int)<rs.length:=by omega
    obtain _|n:=n;omega;simp -implicitDefEqProofs (maxSteps:=2000000) (disch:=try exact Dz) only[↓DN,↓kAsg,↓kRet,UP,simprocAttr,↓dY,hq,h1,n1,h2,n2,fD,eR,Tryz.f30]
  ·have n1:(rs.length:Int)<1:=by omega
   obtain _|n:=n;omega;simp -implicitDefEqProofs (maxSteps:=2000000) (disch:=try exact Dz) only[↓DN,↓kAsg,↓kRet,UP,simprocAttr,↓dY,hq,h1,n1,fD,eR,Tryz.f30]
theorem bQ:type_of% fun {L} al rs ac hs ha hL=>ks fun hn=> @wT L _ hn al rs ac hs ha hL:=fun {L} al rs ac hs ha hL=>ks fun hn=> @wT L _ hn al rs ac hs ha hL
end
section
variable{R:Type}{L n:Nat}
def gJ(a l:Int):Nat:=((aB a).filter fun m=>decide (m<l)).length
def goI(al:Int)(rs:List (List Int))(q l:Int):Int:=if eT al l=true then(rs.getD q.toNat []).getD (gJ al l) 0 else q
theorem six{l:Int}(h0:0<=l)(h1:l<6):l=0\/l=1\/l=2\/l=3\/l=4\/l=5:=by omega
theorem zA{a l:Int}(h0:0<=l)(h1:l<6)(hb:eT a l=true):gJ a l<(aB a).length/\(aB a)[gJ a l]? =some l:=by
 unfold gJ aB;generalize eT a=p at *
 rcases six h0 h1 with rfl|rfl|rfl|rfl|rfl|rfl<;>
  cases h0':p 0<;>cases h1':p 1<;>cases h2':p 2<;>cases h3':p 3<;>cases h4':p 4<;>cases h5':p 5<;>simp_all [List.filter]
theorem iO{a l:Int}:l∈aB a↔(0<=l/\l<6)/\eT a l=true:=by
 unfold aB;rw[List.mem_filter]
 constructor
 ·rintro⟨h1,h2⟩;simp at h1;exact⟨by omega,h2⟩
 ·rintro⟨h1,h2⟩;refine⟨?_,h2⟩
  rcases six h1.1 h1.2 with rfl|rfl|rfl|rfl|rfl|rfl<;>simp
theorem K8(a:Int):(aB a).Nodup:=by
 unfold aB;exact List.Nodup.sublist List.filter_sublist (by decide)
def tA(q:Nat):Nat->Nat->List Int->List Int
 |0,_,t=>t
 |j+1,i,t=>tA q j (i+1) (t.set (q*6+i) q)
def qU(q:Nat)(row:List Int):List Int->Nat->List Int->List Int
 | [],_,t=>t
 |l::ls,i,t=>qU q row ls (i+1) (t.set (q*6+l.toNat) (row.getD i 0))
def rG(ls:List Int):List (List Int)->Nat->List Int->List Int
 | [],_,t=>t
 |r::rs,q,t=>rG ls rs (q+1) (qU q r ls 0 (tA q 6 0 t))
def u9(al:Int)(rs:List (List Int)):List Int:=rG (aB al) rs 0 (List.replicate (rs.length*6) 0)
theorem t6:∀(j q i:Nat) (t:List Int),(tA q j i t).length=t.length
 |0,_,_,_=>rfl
 |j+1,q,i,t=>by simp[tA,t6 j]
theorem EU:∀(ls:List Int) (q i:Nat) (row t:List Int),(qU q row ls i t).length=t.length
 | [],_,_,_,_=>rfl
 |l::ls,q,i,row,t=>by simp[qU,EU ls]
theorem FB:∀(rs:List (List Int)) (ls:List Int) (q:Nat) (t:List Int),(rG ls rs q t).length=t.length
 | [],_,_,_=>rfl
 |r::rs,ls,q,t=>by simp[rG,FB rs,EU,t6]
theorem kM(al:Int)(rs:List (List Int)):(u9 al rs).length=rs.length*6:=by simp[u9,FB]
theorem V1{t:List Int}{k p:Nat}{v:Int}:(t.set k v).getD p 0=if p=k/\k<t.length then v else t.getD p 0:=by
 simp only[Aa,Cg]
 by_cases h:k=p
 ·subst h
  by_cases h2:k<t.length
  ·simp[h2]
  ·simp[h2]
 ·have h':¬p=k:=fun e=>h e.symm;simp[h,h']
theorem OV:∀(j q i:Nat) (t:List Int) (p:Nat),q*6+i+j<=t.length->(tA q j i t).getD p 0=if q*6+i<=p/\p<q*6+i+j then(q:Int)else t.getD p 0
 |0,q,i,t,p,h=>by
  simp only[tA];rw[if_neg (by omega)]
 |j+1,q,i,t,p,h=>by
  simp only[tA];rw[OV j q (i+1) _ p (by simp;omega),V1]
  by_cases h1:q*6+(i+1)<=p/\p<q*6+(i+1)+j
  ·rw[if_pos h1,if_pos (by omega)]
  ·rw[if_neg h1]
   by_cases h2:p=q*6+i
   ·rw[if_pos ⟨h2,by omega⟩,if_pos (by omega)]
   ·rw[if_neg (by omega),if_neg (by omega)]
theorem sX:∀(ls:List Int) (q i:Nat) (row t:List Int) (p:Nat),(∀l∈ls,p≠q*6+l.toNat)->(qU q row ls i t).getD p 0=t.getD p 0
 | [],_,_,_,_,_,_=>rfl
 |l::ls,q,i,row,t,p,h=>by
  simp only[qU];rw[sX ls q (i+1) row _ p fun m hm=>h m (by simp[hm]),V1,if_neg];intro hc;exact h l (by simp) hc.1
theorem M1:∀(ls:List Int) (q i:Nat) (row t:List Int) (k:Nat) (l:Int),ls[k]? =some l->ls.Nodup->(∀m∈ls,0<=m)->q*6+l.toNat<t.length->(qU q row ls i t).getD (q*6+l.toNat) 0=row.getD (i+k) 0
 |l'::ls,q,i,row,t,0,l,h,hn,hp,hl=>by
  simp only[Cm,Option.some.injEq]at h;subst h;simp only[qU];rw[sX,V1,if_pos ⟨rfl,hl⟩,Br];intro m hm hc
  have h1:m=l':=by
   have h2:=hp m (by simp[hm]);have h3:=hp l' (by simp);omega
  subst h1;exact(List.nodup_cons.1 hn).1 hm
 |l'::ls,q,i,row,t,k+1,l,h,hn,hp,hl=>by
  simp only[qU];rw[M1 ls q (i+1) row _ k l (by simpa using h) (List.nodup_cons.1 hn).2 (fun m hm=>hp m (by simp[hm])) (by simpa using hl)]
  congr 1
  omega
theorem aF1{a:Int}:∀m∈aB a,0<=m:=fun m hm=>(iO.1 hm).1.1
theorem aBH{a:Int}:∀(rs:List (List Int)) (q0:Nat) (t:List Int) (q l:Nat),l<6->(q0+rs.length)*6<=t.length->
  (rG (aB a) rs q0 t).getD (q*6+l) 0=if q0<=q/\q<q0+rs.length then(if eT a l=true then(rs.getD (q-q0) []).getD (gJ a l) 0 else(q:Int))else t.getD (q*6+l) 0
 | [],q0,t,q,l,hl,ht=>by
  simp only[rG];rw[if_neg (by simp only[Ac];omega)]
 |r::rs,q0,t,q,l,hl,ht=>by
  simp only[Ad]at ht|-;simp only[rG];rw[aBH rs (q0+1) _ q l hl (by rw[EU,t6];omega)]
  by_cases h1:q0+1<=q/\q<q0+1+rs.length
  ·rw[if_pos h1,if_pos (show q0<=q/\q<q0+(rs.length+1) by omega)];obtain⟨d,hd⟩:∃d,q-q0=d+1:=⟨q-q0-1,by omega⟩
   rw[hd,List.getD_cons_succ,show q-(q0+1)=d by omega]
  ·rw[if_neg h1]
   by_cases h2:q=q0
   ·subst h2;rw[if_pos (show q<=q/\q<q+(rs.length+1) by omega),By,List.getD_cons_zero]
    by_cases hb:eT a l=true
    ·rw[if_pos hb];have hp:=zA (a:=a) (l:=l) (by omega) (by omega) hb;have hg:=M1 (aB a) q 0 r (tA q 6 0 t) (gJ a l) l hp.2 (K8 a) aF1 (by rw[t6];simp;omega);rw[Ct]at hg;rw[hg,Ag]
    ·rw[if_neg hb,sX,OV _ _ _ _ _ (by omega),if_pos (by omega)];intro m hm hc;have hm2:=iO.1 hm;have:m=l:=by omega
     subst this;exact hb hm2.2
   ·rw[if_neg (show ¬(q0<=q/\q<q0+(rs.length+1)) by omega),sX,OV _ _ _ _ _ (by omega),if_neg (by omega)];intro m hm hc;have hm2:=iO.1 hm;omega
theorem aHC{al:Int}{rs:List (List Int)}{q l:Int}(h0:0<=q)(h1:q<rs.length)(h2:0<=l)(h3:l<6):(u9 al rs).getD (q.toNat*6+l.toNat) 0=goI al rs q l:=by
 unfold u9 goI;rw[aBH rs 0 _ q.toNat l.toNat (by omega) (by simp)];rw[if_pos (by omega),Nat.sub_zero,show((l.toNat:Nat):Int)=l by omega,show((q.toNat:Nat):Int)=q by omega]
theorem aAA{al:Int}{rs:List (List Int)}{q l:Int}(h0:0<=q)(h1:q<rs.length)(h2:0<=l)(h3:l<6):((((ints (u9 al rs)).drop (q.toNat*6)).drop l.toNat).map A.d).head? =some (nI (goI al rs q l)):=by
 rw[Ci,PI (by rw[kM];omega),aHC h0 h1 h2 h3]
theorem c_a6:env.P.cellsOf 97=6:=kr
theorem aCf:∀n:Nat,(List.replicate n [D.int .i64 0,.int .i64 0,.int .i64 0,.int .i64 0,.int .i64 0,.int .i64 0]).flatten=ints (List.replicate (n*6) 0)
 |0=>rfl
 |n+1=>by
  rw[List.replicate_succ,List.flatten_cons,aCf n,Nat.succ_mul];simp[ints,List.replicate_succ]
theorem aNf{n:Int}{h:H}(h0:0<=n)(h1:n<=4294967296):gD env.P h 95 n n=some (.sl h.length 0 0 n.toNat,h++[.arr (ints (List.replicate (n.toNat*6) 0)) 6 0]):=by
 have hm:n<=(bK:Nat):=by unfold bK;omega
 have he:c8 env.P 95=some 97:=kr;have hz:dL env.P 97=some (.agg [nI 0,nI 0,nI 0,nI 0,nI 0,nI 0]):=kr;have hok:eX env.P 97=true:=kr;simp only[gD,he,hz,aW,vM,Ax,hok,h0,hm,c_a6,Int.le_refl,and_self,if_true,aCf]
theorem UI(hn:1<=n){al q:Int}{rs:List (List Int)}(hs:bF rs){r:List Int}(hq0:0<=q)(hq1:q<rs.length){k:KE R}:∀(j:Nat) (i:Int) (m:Nat) (t:List Int) (len:Nat) (h0:0<=i) (hi:i+j=6) (hm:j<m) (ht:t.length=rs.length*6) (hlen:len=rs.length),
  aM env (aA env L n) L 0 [] Bz3 (dT 1) (U2 (Z4 (Z1 (U8 (U2 (U1 (Z2 (Z1 (U4 (Z1 (U16 (U8 (U4 ([])))))))))))))) m (Y2 (.d .nils::.sl 0 0 0 len::.d (.ivs (aB al).length (ints (aB al)))::nI q::.d (.ivs r.length (ints r))::Y8 (Y2 (Y1 (.d (.ivs rs.length (aN rs))::nI (rs.length)::nI q::Y4 (nI i::Y16 (Y8 (Y4 ([]))))))))) [.arr (ints t) 6 0] k
  =k (.exit 2) (Y2 (.d .nils::.sl 0 0 0 rs.length::.d (.ivs (aB al).length (ints (aB al)))::nI q::.d (.ivs r.length (ints r))::Y8 (Y2 (Y1 (.d (.ivs rs.length (aN rs))::nI (rs.length)::nI q::Y4 (nI 6::Y16 (Y8 (Y4 ([]))))))))) [.arr (ints (tA q.toNat j i.toNat t)) 6 0]:=by
 intro j;have hrl:=hs.1
 induction j with
 |zero=>
  intro i m t len h0 hi hm ht hlen;obtain _|m:=m;omega;obtain rfl:i=6:=by omega
  simp -implicitDefEqProofs (maxSteps:=2000000) (disch:=try exact Dz) only[↓DN,↓kRet,UP,simprocAttr,Aj,hlen,CJ,AJ,Tryz.f92];rfl
 |succ j ih=>
  intro i m t len h0 hi hm ht hlen;obtain _|m:=m;omega;subst hlen;have hc:i<6:=by omega
  have hk:q.toNat*6+i.toNat<t.length:=by omega
  have e1:(i+1).toNat=i.toNat+1:=by omega
  have e2:((q.toNat:Nat):Int)=q:=by omega
  simp -implicitDefEqProofs (maxSteps:=2000000) (disch:=try exact Dz) only[↓DN,↓kRet,UP,simprocAttr,hc,hq1,↓Q9,↓ih,CJ,AJ,Tryz.f92];rw[e1];simp only[tA,e2]
theorem aFl{a:Int}{i:Nat}(h:i<(aB a).length):(aB a).drop i=(aB a).getD i 0::(aB a).drop (i+1):=cB h
theorem VR(hn:1<=n){al q:Int}{rs:List (List Int)}(hs:bF rs){r:List Int}(hr:r.length<=4294967296)(hrl2:(aB al).length<=r.length)(hq0:0<=q)(hq1:q<rs.length){k:KE R}:∀(j:Nat) (i:Int) (m:Nat) (t:List Int) (len:Nat) (h0:0<=i) (hi:i+j=(aB al).length) (hm:j<m) (ht:t.length=rs.length*6) (hlen:len=rs.length),
  aM env (aA env L n) L 0 [] Bz3 (dT 2) (U2 (Z4 (Z1 (U8 (U2 (U1 (Z2 (Z1 (U4 (Z1 (U8 (U1 (Z2 (Z1 (U16 ([])))))))))))))))) m (Y2 (.d .nils::.sl 0 0 0 len::.d (.ivs (aB al).length (ints (aB al)))::nI q::.d (.ivs r.length (ints r))::Y8 (Y2 (Y1 (.d (.ivs rs.length (aN rs))::nI (rs.length)::nI q::Y4 (nI 6::Y8 (Y1 (.d (.ivs (aB al).length (ints (aB al)))::nI ((aB al).length)::nI i::Y16 ([]))))))))) [.arr (ints t) 6 0] k
  =k (.exit 4) (Y2 (.d .nils::.sl 0 0 0 rs.length::.d (.ivs (aB al).length (ints (aB al)))::nI q::.d (.ivs r.length (ints r))::Y8 (Y2 (Y1 (.d (.ivs rs.length (aN rs))::nI (rs.length)::nI q::Y4 (nI 6::Y8 (Y1 (.d (.ivs (aB al).length (ints (aB al)))::nI ((aB al).length)::nI ((aB al).length)::Y16 ([]))))))))) [.arr (ints (qU q.toNat r ((aB al).drop i.toNat) i.toNat t)) 6 0]:=by
 intro j;have hrl:=hs.1;have hll:=bX al
 induction j with
 |zero=>
  intro i m t len h0 hi hm ht hlen;obtain _|m:=m;omega;obtain rfl:i=(aB al).length:=by omega
  simp -implicitDefEqProofs (maxSteps:=2000000) (disch:=try exact Dz) only[↓DN,↓kRet,UP,simprocAttr,Aj,hlen,CK,AK,Tryz.f92];simp only[Ca,qU]
 |succ j ih=>
  intro i m t len h0 hi hm ht hlen;obtain _|m:=m;omega;subst hlen;have hc:i<(aB al).length:=by omega
  have hk1:i.toNat<(aB al).length:=by omega
  have hk2:i.toNat<r.length:=by omega
  have hv:=aK3 cI hk1;have hv6:(aB al).getD i.toNat 0<6:=by omega
  have hv0:=hv.1;have hk:q.toNat*6+((aB al).getD i.toNat 0).toNat<t.length:=by omega
  have e1:(i+1).toNat=i.toNat+1:=by omega
  simp -implicitDefEqProofs (maxSteps:=2000000) (disch:=try exact Dz) only[↓DN,↓kRet,UP,simprocAttr,hc,hq1,↓Q9,↓ih,CK,AK,Tryz.f92];rw[aFl hk1,e1];simp only[qU]
def tT(w:Nat)(rs:List (List Int)):Prop:=∀r∈rs,r.length=w
theorem aAz{w:Nat}{rs:List (List Int)}(h:tT w rs){k:Nat}(hk:k<rs.length):(rs.getD k []).length=w:=by
 rw[Aa,Ae hk];exact h _ (Az hk)
theorem VO(hL:2^60<=L)(hn:1<=n){al:Int}{rs:List (List Int)}(hs:bF rs)(hw:tT (aB al).length rs){k:KE R}:∀(j:Nat) (i:Int) (m:Nat) (t:List Int) (len:Nat) (h0:0<=i) (hi:i+j=rs.length) (hm:j<m) (ht:t.length=rs.length*6) (hlen:len=rs.length),
  aM env (aA env L n) L 0 [] Bz3 (dT 0) (U2 (Z2 (Z1 (U8 (U4 (U1 (Z2 (Z1 (U32 (U1 ([]))))))))))) m (Y2 (.d .nils::.sl 0 0 0 len::.d (.ivs (aB al).length (ints (aB al)))::Y8 (Y4 (Y1 (.d (.ivs rs.length (aN rs))::nI (rs.length)::nI i::Y32 (Y1 ([]))))))) [.arr (ints t) 6 0] k
  =k (.exit 0) (Y2 (.d .nils::.sl 0 0 0 rs.length::.d (.ivs (aB al).length (ints (aB al)))::Y8 (Y4 (Y1 (.d (.ivs rs.length (aN rs))::nI (rs.length)::nI (rs.length)::Y32 (Y1 ([]))))))) [.arr (ints (rG (aB al) (rs.drop i.toNat) i.toNat t)) 6 0]:=by
 intro j;have hrl:=hs.1;have hll:=bX al
 induction j with
 |zero=>
  intro i m t len h0 hi hm ht hlen;obtain _|m:=m;omega;obtain rfl:i=rs.length:=by omega
  simp -implicitDefEqProofs (maxSteps:=2000000) (disch:=try exact Dz) only[↓DN,↓kRet,UP,simprocAttr,Aj,hlen,EI,AB,Tryz.f92];simp only[Ca,rG]
 |succ j ih=>
  intro i m t len h0 hi hm ht hlen;obtain _|m:=m;omega;subst hlen;have hc:i<rs.length:=by omega
  have hk:i.toNat<rs.length:=by omega
  have hrow:=nO hs hk;have hrw:=aAz hw hk;have e1:(i+1).toNat=i.toNat+1:=by omega
  have loop_a1:=fun {R:Type} {k:KE R}=>UI (R:=R) (L:=L) (n:=n) hn (al:=al) (q:=i) (r:=rs.getD i.toNat []) hs h0 hc (k:=k) 6 0 L t rs.length (by omega) (by omega) (by omega) ht rfl;have loop_a2:=fun {R:Type} {k:KE R}=>VR (R:=R) (L:=L) (n:=n) hn (al:=al) (q:=i) hs (r:=rs.getD i.toNat []) hrow (by omega) h0 hc (k:=k) (aB al).length 0 L (tA i.toNat 6 0 t) rs.length (by omega) (by omega) (by omega) (by rw[t6];exact ht) rfl;simp only[Int.toNat_zero,Bc]at loop_a1 loop_a2;have ht2:(qU i.toNat (rs.getD i.toNat []) (aB al) 0 (tA i.toNat 6 0 t)).length=rs.length*6:=by rw[EU,t6];exact ht
  clear hrw;simp -implicitDefEqProofs (maxSteps:=2000000) (disch:=try exact Dz) only[↓DN,↓kRet,UP,simprocAttr,LA,hc,↓loop_a1,↓loop_a2,↓ih,EI,AB,Tryz.f92];rw[cB hk (d:=[]),e1];simp only[rG]
theorem OH(hn:3<=n)(al:Int)(rs:List (List Int))(z:Nat)(cs:List D)(hs:bF rs)(hw:tT (aB al).length rs)(hL:2^60<=L):aA env L n 92 [.agg [nI al,.d (.ivs rs.length (aN rs)),.d (.ivs z cs)]] []=some (.d (.ivs rs.length (ints (u9 al rs))),[]):=by
 have hrl:=hs.1;have loop_a:=fun {R:Type} {n:Nat} (hn:1<=n) {k:KE R}=>VO (R:=R) (L:=L) (n:=n) hL hn (al:=al) hs hw (k:=k) rs.length 0 L (List.replicate (rs.length*6) 0) rs.length (by omega) (by omega) (by omega) (by simp) rfl;simp only[Int.toNat_zero,Bc]at loop_a;have htl:(u9 al rs).length=rs.length*6:=kM al rs;have htl2:rs.length*6<=(rG (aB al) rs 0 (List.replicate (rs.length*6) 0)).length:=by rw[FB];simp
 have htk:(ints (rG (aB al) rs 0 (List.replicate (rs.length*6) 0))).take (rs.length*6)=ints (rG (aB al) rs 0 (List.replicate (rs.length*6) 0)):=eC (by rw[FB];simp);unfold u9;obtain _|n:=n;omega;simp -implicitDefEqProofs (maxSteps:=2000000) (disch:=try exact Dz) only[↓DN,↓kAsg,↓kRet,UP,simprocAttr,↓jY,↓aNf,↓loop_a,htk,htl2,aDM,RV,Tryz.f92]
theorem NG:type_of% fun {L} al rs z cs hs hw hL=>ks fun hn=> @OH L _ hn al rs z cs hs hw hL:=fun {L} al rs z cs hs hw hL=>ks fun hn=> @OH L _ hn al rs z cs hs hw hL
end
section
variable{R:Type}{L n:Nat}
def cntB(a:Int):Nat->Int->Nat
 |0,_=>0
 |j+1,i=>(if eT a i=true then 1 else 0)+cntB a j (i+1)
theorem aIl{a l:Int}(h0:0<=l)(h1:l<6):cntB a l.toNat 0=gJ a l:=by
 unfold gJ aB;generalize hp:eT a=p;have e:∀i,eT a i=p i:=fun i=>by rw[hp]
 rcases six h0 h1 with rfl|rfl|rfl|rfl|rfl|rfl<;>
  simp only[cntB,e,show(0:Int).toNat=0 from rfl,show(1:Int).toNat=1 from rfl,show(2:Int).toNat=2 from rfl,show(3:Int).toNat=3 from rfl,show(4:Int).toNat=4 from rfl,show(5:Int).toNat=5 from rfl,Int.zero_add,Int.reduceAdd]<;>
  cases h0':p 0<;>cases h1':p 1<;>cases h2':p 2<;>cases h3':p 3<;>cases h4':p 4<;>cases h5':p 5<;>simp_all [List.filter]
theorem aAs(hn:1<=n){a l:Int}(hl:l<6){k:KE R}:∀(j:Nat) (i c:Int) (m:Nat) (h0:0<=i) (hi:i+j=l) (hm:j<m) (hc0:0<=c) (hc1:c<=i),
  aM env (aA env L n) L 0 [] Bz47 (pZ 0) (Z2 (U2 (Z2 (Z1 (U8 (U2 (U1 ([])))))))) m (nI a::nI l::Y2 (nI 0::nI c::nI i::Y8 (Y2 (Y1 ([]))))) [] k
  =k (.exit 0) (nI a::nI l::Y2 (nI 0::nI (c+cntB a j i)::nI l::Y8 (Y2 (Y1 ([]))))) []:=by
 intro j
 induction j with
 |zero=>
  intro i c m h0 hi hm hc0 hc1;obtain _|m:=m;omega;obtain rfl:i=l:=by omega
  simp -implicitDefEqProofs (maxSteps:=2000000) (disch:=try exact Dz) only[↓DN,↓kRet,UP,simprocAttr,Aj,tU,tD,Tryz.f156];simp only[cntB,Ar,Int.add_zero]
 |succ j ih=>
  intro i c m h0 hi hm hc0 hc1;obtain _|m:=m;omega;have hc:i<l:=by omega
  cases hb:eT a i with
  |true=>
   have e:c+1+(cntB a j (i+1):Int)=c+cntB a (j+1) i:=by simp only[cntB,hb,if_true];omega
   simp -implicitDefEqProofs (maxSteps:=2000000) (disch:=try exact Dz) only[↓DN,↓kRet,UP,simprocAttr,↓qY,hc,hb,↓ih,tU,tD,Tryz.f156];rw[e]
  |false=>
   have e:c+(cntB a j (i+1):Int)=c+cntB a (j+1) i:=by simp only[cntB,hb,Ak,if_false];omega
   simp -implicitDefEqProofs (maxSteps:=2000000) (disch:=try exact Dz) only[↓DN,↓kRet,UP,simprocAttr,↓qY,hc,hb,↓ih,tU,tD,Tryz.f156];rw[e]
theorem PK(hn:2<=n)(a l:Int)(h0:0<=l)(h1:l<6)(hL:2^60<=L):aA env L n 156 [nI a,nI l] []=some (nI (gJ a l),[]):=by
 have loop_a:=fun {R:Type} {n:Nat} (hn:1<=n) {k:KE R}=>aAs (R:=R) (L:=L) hn (a:=a) h1 (k:=k) l.toNat 0 0 L (by omega) (by omega) (by omega) (by omega) (by omega);rw[aIl h0 h1]at loop_a;obtain _|n:=n;omega;simp -implicitDefEqProofs (maxSteps:=2000000) (disch:=try exact Dz) only[↓DN,↓kAsg,UP,simprocAttr,↓loop_a,Int.zero_add,aDF,TN,Tryz.f156]
theorem aE8:type_of% fun {L} a l h0 h1 hL=>ks fun hn=> @PK L _ hn a l h0 h1 hL:=fun {L} a l h0 h1 hL=>ks fun hn=> @PK L _ hn a l h0 h1 hL
theorem aMB{al q l:Int}{rs:List (List Int)}(h:eT al l=false):goI al rs q l=q:=by
 unfold goI;rw[h];rfl
theorem Q6{al q l:Int}{rs:List (List Int)}(h:eT al l=true):goI al rs q l=(rs.getD q.toNat []).getD (gJ al l) 0:=by
 unfold goI;rw[if_pos h]
theorem aCs(hn:3<=n)(al q l:Int)(rs:List (List Int))(z:Nat)(cs:List D)(hs:bF rs)(hw:tT (aB al).length rs)(hq0:0<=q)(hq1:q<rs.length)(h0:0<=l)(h1:l<6)(hL:2^60<=L):aA env L n 147 [.agg [nI al,.d (.ivs rs.length (aN rs)),.d (.ivs z cs)],nI q,nI l] []=some (nI (goI al rs q l),[]):=by
 have hrl:=hs.1;have hk:q.toNat<rs.length:=by omega
 have hrow:=nO hs hk;have hrw:=aAz hw hk
 cases hb:eT al l with
 |false=>
  rw[aMB hb];clear hrw;obtain _|n:=n;omega;simp -implicitDefEqProofs (maxSteps:=2000000) (disch:=try exact Dz) only[↓DN,↓kAsg,↓kRet,UP,simprocAttr,↓qY,hb,aB8,UX,Tryz.f147]
 |true=>
  rw[Q6 hb];have hp:=(zA h0 h1 hb).1;have hp2:gJ al l<(rs.getD q.toNat []).length:=by omega
  have hp3:(gJ al l:Int)<(rs.getD q.toNat []).length:=by omega
  have hp4:((gJ al l:Nat):Int).toNat=gJ al l:=Ct _;clear hrw hp;obtain _|n:=n;omega;simp -implicitDefEqProofs (maxSteps:=2000000) (disch:=try exact Dz) only[↓DN,↓kAsg,↓kRet,UP,simprocAttr,↓qY,↓aE8,LA,hb,hp4,aB8,UX,Tryz.f147]
theorem aI9:type_of% fun {L} al q l rs z cs hs hw hq0 hq1 h0 h1 hL=>ks fun hn=> @aCs L _ hn al q l rs z cs hs hw hq0 hq1 h0 h1 hL:=fun {L} al q l rs z cs hs hw hq0 hq1 h0 h1 hL=>ks fun hn=> @aCs L _ hn al q l rs z cs hs hw hq0 hq1 h0 h1 hL
theorem NJ{l:List (List Int)}{r:List Int}{z:Nat}(h:z=r.length):aN l++[.ivs z (ints r)]=aN (l++[r]):=by
 subst h;simp[aN,rowD]
theorem aCm:aN []=[]:=rfl
theorem aKC:aJ []=[]:=rfl
end
section
def FU(mvs:List (List Int))(dist:List Int)(d:Int):Bool:=mvs.any fun r=>r.any fun m=>decide (dist.getD m.toNat 0=d)
def dK(tab:List (List (List Int)))(d:Int):Nat->Nat->List Int×Bool->List Int×Bool
 |0,_,q=>q
 |j+1,i,q=>if q.1.getD i 0<0/\FU (tab.getD i []) q.1 (d-1)=true then dK tab d j (i+1) (q.1.set i d,true)else dK tab d j (i+1) q
def dH(tab:List (List (List Int))):Nat->Int->List Int->List Int
 |0,_,dist=>dist
 |j+1,d,dist=>if(dK tab d dist.length 0 (dist,false)).2=true then dH tab j (d+1) (dK tab d dist.length 0 (dist,false)).1 else(dK tab d dist.length 0 (dist,false)).1
def addC(dist:List Int)(d:Int):List Int->List Int->List Int
 | [],out=>out
 |m::ms,out=>if dist.getD m.toNat 0=d/\m∉out then addC dist d ms (out++[m])else addC dist d ms out
def bH(tab:List (List (List Int)))(dist:List Int)(k:Nat)(d:Int):List Int->List Int->List Int
 | [],out=>out
 |v::vs,out=>bH tab dist k d vs (addC dist d ((tab.getD v.toNat []).getD k []) out)
def KP(tab:List (List (List Int)))(dist:List Int)(at_:List Int)(d:Int):Nat->Nat->Nat×List Int
 |0,k=>(k,[])
 |j+1,k=>if bH tab dist k d at_ []=[]then KP tab dist at_ d j (k+1)else(k,bH tab dist k d at_ [])
def mH(tab:List (List (List Int)))(dist:List Int)(ls:List Int):Nat->List Int->List Int
 |0,_=>[]
 |d+1,at_=>ls.getD (KP tab dist at_ d (ls.length+1) 0).1 0::mH tab dist ls d (KP tab dist at_ d (ls.length+1) 0).2
def ZI(tab:List (List (List Int)))(ls:List Int)(dist:List Int)(s:Int):List Int×Bool:=
 if dist.getD s.toNat 0<0 then([],false)else(mH tab dist ls (dist.getD s.toNat 0).toNat [s],true)
section
variable{nx:Int->Int->List Int}{gl:Int->Bool}{ls:List Int}{aO:Nat}{tab:List (List (List Int))}
def Away(nx:Int->Int->List Int)(ls:List Int)(gl:Int->Bool)(v:Int)(d:Nat):Prop:=∃w g,w.length=d/\Path nx ls v w g/\gl g=true
def Far(nx:Int->Int->List Int)(ls:List Int)(gl:Int->Bool)(v:Int)(d:Nat):Prop:=Away nx ls gl v d/\∀e,e<d->¬Away nx ls gl v e
theorem PG{v:Int}:Away nx ls gl v 0↔gl v=true:=by
 constructor
 ·rintro⟨w,g,h1,h2,h3⟩;have:w=[]:=Bx.1 h1;subst this;rw[show v=g from h2];exact h3
 ·intro h;exact⟨[],v,rfl,rfl,h⟩
theorem FC{v:Int}{d:Nat}:Away nx ls gl v (d+1)↔∃l∈ls,∃m∈nx v l,Away nx ls gl m d:=by
 constructor
 ·rintro⟨w,g,h1,h2,h3⟩
  cases w with
  |nil=>simp at h1
  |cons l w=>
   obtain⟨hl,m,hm,hp⟩:=h2;exact⟨l,hl,m,hm,w,g,by simpa using h1,hp,h3⟩
 ·rintro⟨l,hl,m,hm,w,g,h1,h2,h3⟩;exact⟨l::w,g,by simp[h1],⟨hl,m,hm,h2⟩,h3⟩
theorem A9{v:Int}{d e:Nat}(h:Far nx ls gl v d)(k:Far nx ls gl v e):d=e:=by
 rcases Da d e with h1|h1|h1
 ·exact(k.2 d h1 h.1).elim
 ·exact h1
 ·exact(h.2 e h1 k.1).elim
theorem aLG{v:Int}:∀ {d:Nat},Away nx ls gl v d->∃e,e<=d/\Far nx ls gl v e:=by
 intro d
 induction d using Nat.strongRecOn with
 |_ d ih=>
  intro h
  by_cases hd:∃e,e<d/\Away nx ls gl v e
  ·obtain⟨e,h1,h2⟩:=hd;obtain⟨f,h3,h4⟩:=ih e h1 h2;exact⟨f,by omega,h4⟩
  ·exact⟨d,Ab _,h,fun e he ha=>hd ⟨e,he,ha⟩⟩
theorem JC{v:Int}{d:Nat}(h:Far nx ls gl v (d+1)):∃l∈ls,∃m∈nx v l,Far nx ls gl m d:=by
 obtain⟨l,hl,m,hm,ha⟩:=FC.1 h.1;refine⟨l,hl,m,hm,ha,fun e he h2=> ?_⟩;exact h.2 (e+1) (by omega) (FC.2 ⟨l,hl,m,hm,h2⟩)
structure Tab(nx:Int->Int->List Int)(ls:List Int)(aO:Nat)(tab:List (List (List Int))):Prop where
 len:tab.length=aO
 row:∀v:Nat,v<aO->tab.getD v []=ls.map (nx v)
 rng:∀v c:Int,0<=v->v<aO->c∈ls->∀m∈nx v c,0<=m/\m<aO
def YO(nx:Int->Int->List Int)(ls:List Int)(gl:Int->Bool)(aO:Nat)(dist:List Int)(d:Nat):Prop:=
 dist.length=aO/\∀i:Nat,i<aO->(∃k:Nat,k<=d/\dist.getD i 0=k/\Far nx ls gl i k)\/(dist.getD i 0= -1/\∀e,e<=d->¬Away nx ls gl i e)
theorem NP{dist:List Int}{d:Nat}(h:YO nx ls gl aO dist d){v:Int}{k:Nat}(h0:0<=v)(h1:v<aO)(hk:k<=d):dist.getD v.toNat 0=k↔Far nx ls gl v k:=by
 have hv:((v.toNat:Nat):Int)=v:=by omega
 rcases h.2 v.toNat (by omega)with⟨e,h2,h3,h4⟩|⟨h3,h4⟩
 ·rw[hv]at h4
  constructor
  ·intro h5;have:e=k:=by omega
   rw[<-this];exact h4
  ·intro h5;rw[h3,A9 h4 h5]
 ·rw[hv]at h4
  constructor
  ·intro h5;omega
  ·intro h5;exact(h4 k hk h5.1).elim
theorem aLj(ht:Tab nx ls aO tab){dist old:List Int}{d:Nat}(hk:YO nx ls gl aO old d){v:Nat}(hv:v<aO)(hs:∀i:Nat,i<aO->(dist.getD i 0=d↔old.getD i 0=d)):
  FU (tab.getD v []) dist d=true↔∃l∈ls,∃m∈nx v l,Far nx ls gl m d:=by
 unfold FU;rw[ht.row v hv];simp only[List.any_map,List.any_eq_true,Function.comp,decide_eq_true_eq]
 constructor
 ·rintro⟨l,hl,m,hm,h⟩;have hr:=ht.rng v l (by omega) (by omega) hl m hm;rw[hs m.toNat (by omega)]at h;exact⟨l,hl,m,hm,(NP hk hr.1 hr.2 (Ab _)).1 h⟩
 ·rintro⟨l,hl,m,hm,h⟩;have hr:=ht.rng v l (by omega) (by omega) hl m hm;refine⟨l,hl,m,hm,?_⟩;rw[hs m.toNat (by omega)];exact(NP hk hr.1 hr.2 (Ab _)).2 h
theorem aBi{α:Type}{l:List α}{i j:Nat}{x d:α}(h:i<l.length):(l.set i x).getD j d=if i=j then x else l.getD j d:=by
 rw[Aa,Cg,Aa]
 by_cases hij:i=j
 ·subst hij;simp[h]
 ·simp[hij]
open Classical in
theorem aNG(ht:Tab nx ls aO tab){old:List Int}{d:Nat}(hk:YO nx ls gl aO old d):∀(j i:Nat) (q:List Int×Bool),i+j=aO->q.1.length=aO->(∀x:Nat,x<aO->q.1.getD x 0=if x<i/\Far nx ls gl x (d+1)then((d+1:Nat):Int)else old.getD x 0)->(q.2=true↔∃x:Nat,x<i/\Far nx ls gl x (d+1))->
  (dK tab ((d+1:Nat):Int) j i q).1.length=aO/\(∀x:Nat,x<aO->(dK tab ((d+1:Nat):Int) j i q).1.getD x 0=if Far nx ls gl x (d+1)then((d+1:Nat):Int)else old.getD x 0)/\((dK tab ((d+1:Nat):Int) j i q).2=true↔∃x:Nat,x<aO/\Far nx ls gl x (d+1)):=by
 intro j
 induction j with
 |zero=>
  intro i q hi hl hq hb;obtain rfl:i=aO:=by omega
  refine⟨hl,fun x hx=> ?_,hb⟩;have:=hq x hx;simp only[hx,true_and]at this;exact this
 |succ j ih=>
  intro i q hi hl hq hb;have hit:i<aO:=by omega
  have e1:((d+1:Nat):Int)-1=(d:Int):=by omega
  have hqi:q.1.getD i 0=old.getD i 0:=by
   rw[hq i hit,if_neg (by omega)]
  have hnear:=aLj ht hk hit (dist:=q.1) fun x hx=>by
   rw[hq x hx]
   split
   ·rename_i h
    constructor
    ·intro h2;omega
    ·intro h2;have:=(NP hk (v:=(x:Int)) (by omega) (by omega) (Ab d)).1 (by simpa using h2);have:=A9 h.2 this;omega
   ·exact Iff.rfl
  have hfar:(q.1.getD i 0<0/\FU (tab.getD i []) q.1 (((d+1:Nat):Int)-1)=true)↔Far nx ls gl i (d+1):=by
   rw[e1,hnear,hqi]
   constructor
   ·rintro⟨h1,l,hl,m,hm,h2⟩
    rcases hk.2 i hit with⟨k,_,h3,_⟩|⟨_,h4⟩
    ·omega
    ·exact⟨FC.2 ⟨l,hl,m,hm,h2.1⟩,fun e he=>h4 e (by omega)⟩
   ·intro h;refine⟨?_,JC h⟩
    rcases hk.2 i hit with⟨k,h2,h3,h4⟩|⟨h3,_⟩
    ·have:=A9 h h4;omega
    ·omega
  unfold dK
  by_cases hc:Far nx ls gl i (d+1)
  ·rw[if_pos (hfar.2 hc)];refine ih (i+1) _ (by omega) (by simpa using hl) (fun x hx=> ?_) ?_
   ·simp only;rw[aBi (by omega)]
    by_cases hix:i=x
    ·subst hix;rw[if_pos rfl,if_pos ⟨by omega,hc⟩]
    ·rw[if_neg hix,hq x hx]
     by_cases hxi:x<i
     ·simp only[hxi,show x<i+1 by omega,true_and]
     ·simp only[hxi,show ¬x<i+1 by omega,false_and,if_false]
   ·simp only[true_iff];exact⟨i,by omega,hc⟩
  ·rw[if_neg (fun h=>hc (hfar.1 h))];refine ih (i+1) q (by omega) hl (fun x hx=> ?_) ?_
   ·rw[hq x hx]
    by_cases hix:i=x
    ·subst hix;simp only[hc,and_false,if_false]
    ·by_cases hxi:x<i
     ·simp only[hxi,show x<i+1 by omega,true_and]
     ·simp only[hxi,show ¬x<i+1 by omega,false_and,if_false]
   ·rw[hb]
    constructor
    ·rintro⟨x,h1,h2⟩;exact⟨x,by omega,h2⟩
    ·rintro⟨x,h1,h2⟩
     by_cases hix:x=i
     ·subst hix;exact(hc h2).elim
     ·exact⟨x,by omega,h2⟩
def Full(nx:Int->Int->List Int)(ls:List Int)(gl:Int->Bool)(aO:Nat)(dist:List Int):Prop:=
 dist.length=aO/\∀i:Nat,i<aO->(∃k:Nat,dist.getD i 0=k/\Far nx ls gl i k)\/(dist.getD i 0= -1/\∀e,¬Away nx ls gl i e)
theorem LC:∀ {l:List Int} {i:Nat} {x:Int},l.getD i 0<0->i<l.length->0<=x->(l.set i x).countP (·<0)+1=l.countP (·<0)
 | [],i,x,h,hi,hx=>by simp at hi
 |a::l,0,x,h,hi,hx=>by
  simp at h;simp only[Cd,Ds];simp[h,show ¬x<0 by omega]
 |a::l,i+1,x,h,hi,hx=>by
  have ih:=LC (l:=l) (i:=i) (x:=x) (by simpa using h) (by simpa using hi) hx;simp only[Bl,Ds];omega
theorem QV{d:Int}(hd:0<=d):∀(j i:Nat) (q:List Int×Bool),i+j=q.1.length->(dK tab d j i q).1.countP (·<0)<=q.1.countP (·<0)/\((dK tab d j i q).2=true->q.2=true\/(dK tab d j i q).1.countP (·<0)<q.1.countP (·<0))
 |0,i,q,h=>⟨Ab _,fun h=>.inl h⟩
 |j+1,i,q,h=>by
  unfold dK
  split
  ·rename_i hc
   have h1:=LC (l:=q.1) (i:=i) (x:=d) hc.1 (by omega) hd;obtain⟨h2,h3⟩:=QV hd j (i+1) (q.1.set i d,true) (by simp;omega);simp only at h2;exact⟨by omega,fun _=>.inr (by omega)⟩
  ·exact QV hd j (i+1) q (by omega)
open Classical in
theorem aJg(ht:Tab nx ls aO tab):∀(j d:Nat) (dist:List Int),YO nx ls gl aO dist d->dist.countP (·<0)<j->Full nx ls gl aO (dH tab j ((d+1:Nat):Int) dist)
 |0,d,dist,hk,hj=>by omega
 |j+1,d,dist,hk,hj=>by
  have h0:∀x:Nat,x<aO->dist.getD x 0=if x<0/\Far nx ls gl x (d+1)then((d+1:Nat):Int)else dist.getD x 0:=fun x hx=>by
   rw[if_neg (by omega)]
  obtain⟨h1,h2,h3⟩:=aNG ht hk aO 0 (dist,false) (by omega) hk.1 h0 (by simp);have hc:=QV (tab:=tab) (d:=((d+1:Nat):Int)) (by omega) dist.length 0 (dist,false) (by simp);unfold dH;rw[<-hk.1]at h1 h2 h3;generalize dK tab ((d+1:Nat):Int) dist.length 0 (dist,false)=r at *;rw[hk.1]at h1 h2 h3
  split
  ·rename_i hb
   have hlt:=hc.2 hb;simp only[Ak,false_or]at hlt;refine aJg ht j (d+1) r.1 ⟨h1,fun i hi=> ?_⟩ (by omega);rw[h2 i hi]
   split
   ·rename_i hf
    exact .inl ⟨d+1,Ab _,rfl,hf⟩
   ·rename_i hf
    rcases hk.2 i hi with⟨k,g1,g2,g3⟩|⟨g1,g2⟩
    ·exact .inl ⟨k,by omega,g2,g3⟩
    ·refine .inr ⟨g1,fun e he ha=> ?_⟩
     by_cases hed:e=d+1
     ·subst hed;exact hf ⟨ha,fun e' he'=>g2 e' (by omega)⟩
     ·exact g2 e (by omega) ha
  ·rename_i hb
   have hno:∀i:Nat,i<aO->¬Far nx ls gl i (d+1):=fun i hi hf=>hb (h3.2 ⟨i,hi,hf⟩)
   have hnone:∀e:Nat,∀i:Nat,i<aO->d<e->¬Far nx ls gl i e:=by
    intro e
    induction e with
    |zero=>intro i hi he;omega
    |succ e ih=>
     intro i hi he hf
     by_cases hed:e=d
     ·subst hed;exact hno i hi hf
     ·obtain⟨l,hl,m,hm,hfm⟩:=JC hf;have hr:=ht.rng i l (by omega) (by omega) hl m hm;refine ih m.toNat (by omega) (by omega) ?_;rw[show((m.toNat:Nat):Int)=m by omega];exact hfm
   refine⟨h1,fun i hi=> ?_⟩;rw[h2 i hi,if_neg (hno i hi)]
   rcases hk.2 i hi with⟨k,g1,g2,g3⟩|⟨g1,g2⟩
   ·exact .inl ⟨k,g2,g3⟩
   ·refine .inr ⟨g1,fun e ha=> ?_⟩;obtain⟨f,h4,h5⟩:=aLG ha
    by_cases hfd:f<=d
    ·exact g2 f hfd h5.1
    ·exact hnone f i hi (by omega) h5
theorem VX{dist:List Int}{d:Int}:∀(ms out:List Int) (x:Int),x∈addC dist d ms out↔x∈out\/(x∈ms/\dist.getD x.toNat 0=d)
 | [],out,x=>by simp[addC]
 |m::ms,out,x=>by
  unfold addC
  split
  ·rename_i h
   rw[VX ms,Al,Bo,At]
   constructor
   ·rintro((k|rfl)|k)
    ·exact .inl k
    ·exact .inr ⟨.inl rfl,h.1⟩
    ·exact .inr ⟨.inr k.1,k.2⟩
   ·rintro(k|⟨rfl|k,k2⟩)
    ·exact .inl (.inl k)
    ·exact .inl (.inr rfl)
    ·exact .inr ⟨k,k2⟩
  ·rename_i h
   rw[VX ms,At]
   constructor
   ·rintro(k|k)
    ·exact .inl k
    ·exact .inr ⟨.inr k.1,k.2⟩
   ·rintro(k|⟨rfl|k,k2⟩)
    ·exact .inl k
    ·by_cases hx:x∈out
     ·exact .inl hx
     ·exact(h ⟨k2,hx⟩).elim
    ·exact .inr ⟨k,k2⟩
theorem JS{dist:List Int}{k:Nat}{d:Int}:∀(vs out:List Int) (x:Int),x∈bH tab dist k d vs out↔x∈out\/(∃v∈vs,x∈(tab.getD v.toNat []).getD k []/\dist.getD x.toNat 0=d)
 | [],out,x=>by simp[bH]
 |v::vs,out,x=>by
  unfold bH;rw[JS vs,VX]
  constructor
  ·rintro((h|h)|⟨u,h1,h2⟩)
   ·exact .inl h
   ·exact .inr ⟨v,Bi,h⟩
   ·exact .inr ⟨u,Be _ h1,h2⟩
  ·rintro(h|⟨u,h1,h2⟩)
   ·exact .inl (.inl h)
   ·rcases At.1 h1 with rfl|h1
    ·exact .inl (.inr h2)
    ·exact .inr ⟨u,h1,h2⟩
theorem Z9{dist at_:List Int}{d:Int}:∀(j k:Nat),(∃e,k<=e/\e<k+j/\bH tab dist e d at_ []≠[])->∃e,k<=e/\e<k+j/\KP tab dist at_ d j k=(e,bH tab dist e d at_ [])/\bH tab dist e d at_ []≠[]/\∀f,k<=f->f<e->bH tab dist f d at_ []=[]
 |0,k,⟨e,h1,h2,_⟩=>by omega
 |j+1,k,⟨e,h1,h2,h3⟩=>by
  unfold KP
  split
  ·rename_i hc
   have hek:e≠k:=fun h=>h3 (h▸hc);obtain⟨f,g1,g2,g3,g4,g5⟩:=Z9 j (k+1) ⟨e,by omega,by omega,h3⟩;refine⟨f,by omega,by omega,g3,g4,fun x hx1 hx2=> ?_⟩
   by_cases hxk:x=k
   ·subst hxk;exact hc
   ·exact g5 x (by omega) hx2
  ·rename_i hc
   exact⟨k,Ab _,by omega,rfl,hc,fun f h h'=>by omega⟩
theorem DK{dist:List Int}(h:Full nx ls gl aO dist){v:Int}{k:Nat}(h0:0<=v)(h1:v<aO):dist.getD v.toNat 0=k↔Far nx ls gl v k:=by
 have hv:((v.toNat:Nat):Int)=v:=by omega
 rcases h.2 v.toNat (by omega)with⟨e,h3,h4⟩|⟨h3,h4⟩
 ·rw[hv]at h4
  constructor
  ·intro h5;have:e=k:=by omega
   rw[<-this];exact h4
  ·intro h5;rw[h3,A9 h4 h5]
 ·rw[hv]at h4
  constructor
  ·intro h5;omega
  ·intro h5;exact(h4 k h5.1).elim
theorem QO(ht:Tab nx ls aO tab){v:Int}{k:Nat}(h0:0<=v)(h1:v<aO)(hk:k<ls.length):(tab.getD v.toNat []).getD k []=nx v (ls.getD k 0):=by
 rw[ht.row v.toNat (by omega),show((v.toNat:Nat):Int)=v by omega,Aa,Bd,Ae hk,Aa,Ae hk];rfl
theorem aAn:∀ {l:List Int} {i j:Nat},l.Pairwise (·<·)->i<j->j<l.length->l.getD i 0<l.getD j 0
 | [],i,j,_,_,h=>by simp at h
 |a::l,0,j+1,h,_,hj=>by
  have hj':j<l.length:=by simpa using hj
  have:=(List.pairwise_cons.1 h).1 (l.getD j 0) (by rw[Aa,Ae hj'];exact Az hj')
  simpa using this
 |a::l,i+1,j+1,h,hij,hj=>by
  have:=aAn (List.pairwise_cons.1 h).2 (i:=i) (j:=j) (by omega) (by simpa using hj)
  simpa using this
theorem aII(ht:Tab nx ls aO tab){dist:List Int}(hf:Full nx ls gl aO dist)(ha:ls.Pairwise (·<·)):∀(d:Nat) (at_:List Int),(∀v∈at_,(0<=v/\v<aO)/\Far nx ls gl v d)->at_≠[]->
  (mH tab dist ls d at_).length=d/\(∃v∈at_,∃g,Path nx ls v (mH tab dist ls d at_) g/\gl g=true)/\∀w v g,v∈at_->w.length=d->Path nx ls v w g->gl g=true->¬o6 w (mH tab dist ls d at_):=by
 intro d
 induction d with
 |zero=>
  intro at_ hat hne;refine⟨rfl,?_,fun w v g _ hw _ _ h=> ?_⟩
  ·cases at_ with
   |nil=>exact(hne rfl).elim
   |cons v vs=>
    have:=(hat v Bi).2;exact⟨v,Bi,v,rfl,PG.1 this.1⟩
  ·have:w=[]:=Bx.1 hw;subst this;exact h
 |succ d ih=>
  intro at_ hat hne
  have hmem:∀k x,k<ls.length->(x∈bH tab dist k d at_ []↔∃v∈at_,x∈nx v (ls.getD k 0)/\Far nx ls gl x d):=by
   intro k x hk;rw[JS];simp only[Bn,false_or]
   constructor
   ·rintro⟨v,hv,h1,h2⟩;have hr:=(hat v hv).1;rw[QO ht hr.1 hr.2 hk]at h1;have hl:ls.getD k 0∈ls:=by rw[Aa,Ae hk];exact Az hk
    have hx:=ht.rng v _ hr.1 hr.2 hl x h1;exact⟨v,hv,h1,(DK hf hx.1 hx.2).1 h2⟩
   ·rintro⟨v,hv,h1,h2⟩;have hr:=(hat v hv).1;have hl:ls.getD k 0∈ls:=by rw[Aa,Ae hk];exact Az hk
    have hx:=ht.rng v _ hr.1 hr.2 hl x h1;exact⟨v,hv,by rw[QO ht hr.1 hr.2 hk];exact h1,(DK hf hx.1 hx.2).2 h2⟩
  have hidx:∀l∈ls,∃k,k<ls.length/\ls.getD k 0=l:=by
   intro l hl;obtain⟨k,hk,h⟩:=Ck hl;exact⟨k,hk,by rw[Aa,Ae hk,h];rfl⟩
  obtain⟨v0,hv0⟩:∃v,v∈at_:=by
   cases at_ with
   |nil=>exact(hne rfl).elim
   |cons v vs=>exact⟨v,Bi⟩
  obtain⟨l0,hl0,m0,hm0,hfm0⟩:=JC (hat v0 hv0).2;obtain⟨k0,hk0,e0⟩:=hidx l0 hl0
  have hne0:bH tab dist k0 d at_ []≠[]:=by
   intro h;have:=(hmem k0 m0 hk0).2 ⟨v0,hv0,by rw[e0];exact hm0,hfm0⟩;rw[h]at this;cases this
  obtain⟨e,_,h2,h3,h4,h5⟩:=Z9 (tab:=tab) (dist:=dist) (at_:=at_) (d:=d) (ls.length+1) 0 ⟨k0,by omega,by omega,hne0⟩
  have hel:e<ls.length:=by
   apply Nat.lt_of_not_le;intro h
   by_cases he0:k0<e
   ·exact hne0 (h5 k0 (by omega) he0)
   ·omega
  have hel2:ls.getD e 0∈ls:=by rw[Aa,Ae hel];exact Az hel
  unfold mH;rw[h3];simp only
  have hat2:∀x∈bH tab dist e d at_ [],(0<=x/\x<aO)/\Far nx ls gl x d:=by
   intro x hx;obtain⟨v,hv,g1,g2⟩:=(hmem e x hel).1 hx;have hr:=(hat v hv).1;exact⟨ht.rng v _ hr.1 hr.2 hel2 x g1,g2⟩
  obtain⟨i1,⟨m,hm,g,i2,i3⟩,i4⟩:=ih _ hat2 h4;refine⟨by simp[i1],?_,?_⟩
  ·obtain⟨v,hv,g1,g2⟩:=(hmem e m hel).1 hm;exact⟨v,hv,g,⟨hel2,m,g1,i2⟩,i3⟩
  ·intro w v g' hv hw hp hg hlt
   cases w with
   |nil=>simp at hw
   |cons l w=>
    obtain⟨hl,m',hm',hp'⟩:=hp
    have hfm:Far nx ls gl m' d:=by
     refine⟨⟨w,g',by simpa using hw,hp',hg⟩,fun x hx hax=> ?_⟩;exact(hat v hv).2.2 (x+1) (by omega) (FC.2 ⟨l,hl,m',hm',hax⟩)
    obtain⟨k,hk,ek⟩:=hidx l hl;have hmc:m'∈bH tab dist k d at_ []:=(hmem k m' hk).2 ⟨v,hv,by rw[ek];exact hm',hfm⟩
    have hke:e<=k:=by
     apply Nat.le_of_not_lt;intro h;rw[h5 k (by omega) h]at hmc;cases hmc
    rcases hlt with h|⟨h,h'⟩
    ·by_cases hek:e=k
     ·subst hek;omega
     ·have:=aAn ha (i:=e) (j:=k) (by omega) hk;omega
    ·have:e=k:=by
      apply Nat.le_antisymm hke;apply Nat.le_of_not_lt;intro hc;have:=aAn ha (i:=e) (j:=k) hc hk;omega
     subst this;exact i4 w m' g' hmc (by simpa using hw) hp' hg h'
theorem aK9(ht:Tab nx ls aO tab){dist:List Int}(hf:Full nx ls gl aO dist)(ha:ls.Pairwise (·<·)){s:Int}(h0:0<=s)(h1:s<aO):BA (Hits nx ls [s] gl) (ZI tab ls dist s):=by
 have hv:((s.toNat:Nat):Int)=s:=by omega
 unfold ZI
 rcases hf.2 s.toNat (by omega)with⟨k,h2,h3⟩|⟨h2,h3⟩
 ·rw[hv]at h3;rw[h2,if_neg (by omega),Ct];obtain⟨i1,⟨v,hv1,g,i2,i3⟩,i4⟩:=aII ht hf ha k [s] (fun v hv=>by simp at hv;subst hv;exact⟨⟨h0,h1⟩,h3⟩) (by simp);have:v=s:=by simpa using hv1
  subst this;refine .inl ⟨rfl,⟨g,⟨v,by simp,i2⟩,i3⟩,?_⟩;rintro x ⟨u,⟨y,hy,hp⟩,hg⟩ hlt;have:y=v:=by simpa using hy
  subst this;have hlt':slt x (mH tab dist ls k [y]):=hlt
  rcases hlt' with h|⟨h,h'⟩
  ·exact h3.2 x.length (by omega) ⟨x,u,rfl,hp,hg⟩
  ·exact i4 x y u (by simp) (by omega) hp hg h'
 ·rw[hv]at h3;rw[h2,if_pos (by omega)];refine .inr ⟨rfl,?_⟩;rintro w ⟨u,⟨y,hy,hp⟩,hg⟩;have:y=s:=by simpa using hy
  subst this;exact h3 w.length ⟨w,u,rfl,hp,hg⟩
end
end
end Ev
end Go.Proofs.YthlkcebdfbjdoaaGreat
