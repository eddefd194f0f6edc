/-
  The states that words lead to, in the order of their first words: a plain law on graphs.
-/
import Derived.Test.YtppffbehejpglaaGreatPathG
import Derived.Test.YtppffbehejpglaaGreatNetR
import Derived.Test.YtppffbehejpglaaGreatAutG
import Derived.Test.YtppffbehejpglaaGreatNetV
set_option linter.unusedSimpArgs false
set_option linter.unusedVariables false
set_option linter.unusedSectionVars false
set_option maxRecDepth 8000
set_option maxHeartbeats 4000000
namespace Go.Proofs.YtppffbehejpglaaGreat
namespace Ev
section
def addU(out:List Int)(x:Int):List Int:=if x∈out then out else out++[x]
def rowU(out r:List Int):List Int:=r.foldl addU out
section
variable(go:Int->Int->Int)(ls:List Int)
def ordB:Nat->Nat->List Int->List Int
 |0,_,out=>out
 |j+1,i,out=>if i<out.length then ordB j (i+1) (rowU out (ls.map (go (out.getD i 0))))else out
structure Bfs(n i:Nat)(done out:List Int)(W:Nat->List Int):Prop where
 pos:0<out.length
 w0:W 0=[]
 o0:out.getD 0 0=0
 nod:out.Nodup
 rng:∀x∈out,0<=x/\x<n
 run:∀k,k<out.length->(W k).foldl go 0=out.getD k 0
 lts:∀k,k<out.length->∀l∈W k,l∈ls
 asc:∀j k,j<k->k<out.length->slt (W j) (W k)
 pre:∀k,0<k->k<out.length->∃p l,p<k/\l∈ls/\W k=W p++[l]/\(p<i\/p=i/\l∈done)
 clo:∀p l,p<out.length->l∈ls->(p<i\/p=i/\l∈done)->∃q,q<out.length/\out.getD q 0=go (out.getD p 0) l/\¬slt (W p++[l]) (W q)
variable{go ls}{n:Nat}
theorem aN7{x y:List Int}(h:slt x y):¬slt y x:=fun k=>aET x (LZ h k)
theorem Bfs.front{i:Nat}{done out rest:List Int}{W:Nat->List Int}{l:Int}(h:Bfs go ls n i done out W)(ha:Asc ls)(hd:ls=done++l::rest)(hi:i<out.length):∀k,k<out.length->slt (W k) (W i++[l]):=by
 intro k hk
 rcases Cr k with rfl|hk0
 ·rw[h.w0];exact .inl sm
 ·obtain⟨p,m,hp,hm,e,hpi⟩:=h.pre k hk0 hk;rw[e,RF]
  rcases hpi with hpi|⟨rfl,hmd⟩
  ·exact .inl (h.asc p i hpi hi)
  ·refine .inr ⟨rfl,?_⟩;rw[hd]at ha;exact(List.pairwise_append.1 ha).2.2 m hmd l Bi
theorem aQu(out:List Int)(x:Int):out.length<=(addU out x).length:=by
 unfold addU;split<;>simp
theorem aP0{out:List Int}{x:Int}{i:Nat}(hi:i<out.length):(addU out x).getD i 0=out.getD i 0:=by
 unfold addU
 split
 ·rfl
 ·exact kT hi
theorem Bfs.step{i:Nat}{done out rest:List Int}{W:Nat->List Int}{l v:Int}(h:Bfs go ls n i done out W)(ha:Asc ls)(hd:ls=done++l::rest)(hi:i<out.length)(hv:out.getD i 0=v)(hx:0<=go v l/\go v l<n):
  ∃W',Bfs go ls n i (done++[l]) (addU out (go v l)) W':=by
 have hf:=h.front ha hd hi;have hl:l∈ls:=by rw[hd];simp
 have hmem:∀ {m:Int},m∈done++[l]↔m∈done\/m=l:=by intro m;simp
 unfold addU
 by_cases hin:go v l∈out
 ·rw[if_pos hin];refine⟨W,h.pos,h.w0,h.o0,h.nod,h.rng,h.run,h.lts,h.asc,?_,?_⟩
  ·intro k h0 hk;obtain⟨p,m,a,b,c,d⟩:=h.pre k h0 hk;refine⟨p,m,a,b,c,?_⟩
   rcases d with d|⟨d,e⟩
   ·exact .inl d
   ·exact .inr ⟨d,hmem.2 (.inl e)⟩
  ·intro p m hp hm hpi
   rcases hpi with hpi|⟨rfl,hpi⟩
   ·exact h.clo p m hp hm (.inl hpi)
   ·rcases hmem.1 hpi with hpi|rfl
    ·exact h.clo p m hp hm (.inr ⟨rfl,hpi⟩)
    ·obtain⟨q,hq,e⟩:=Cb hin;refine⟨q,hq,?_,aN7 (hf q hq)⟩;rw[hv,Aa,Ad hq,e];rfl
 ·rw[if_neg hin];have hlen:(out++[go v l]).length=out.length+1:=sm;have hnew:(out++[go v l]).getD out.length 0=go v l:=by rw[Aa];simp
  have hne:∀ {k},k<out.length->¬k=out.length:=om;refine⟨fun k=>if k=out.length then W i++[l]else W k,by simp,?_,?_,?_,?_,?_,?_,?_,?_,?_⟩
  ·have:=h.pos;rw[if_neg om];exact h.w0
  ·rw[kT h.pos];exact h.o0
  ·rw[Dt];refine⟨h.nod,by simp,?_⟩;intro a ha' b hb e;simp at hb;subst hb;subst e;exact hin ha'
  ·intro x hx'
   rcases Am.1 hx' with hx'|hx'
   ·exact h.rng x hx'
   ·simp at hx';subst hx';exact hx
  ·intro k hk;rw[hlen]at hk
   by_cases hk2:k=out.length
   ·subst hk2;rw[if_pos rfl,hnew,List.foldl_append,h.run i hi,hv];rfl
   ·rw[if_neg hk2,kT om];exact h.run k om
  ·intro k hk m hm;rw[hlen]at hk
   by_cases hk2:k=out.length
   ·rw[if_pos hk2]at hm
    rcases Am.1 hm with hm|hm
    ·exact h.lts i hi m hm
    ·simp at hm;subst hm;exact hl
   ·rw[if_neg hk2]at hm;exact h.lts k om m hm
  ·intro j k hjk hk;rw[hlen]at hk;rw[if_neg (by omega:¬j=out.length)]
   by_cases hk2:k=out.length
   ·rw[if_pos hk2];exact hf j om
   ·rw[if_neg hk2];exact h.asc j k hjk om
  ·intro k h0 hk;rw[hlen]at hk
   by_cases hk2:k=out.length
   ·refine⟨i,l,by omega,hl,?_,.inr ⟨rfl,hmem.2 (.inr rfl)⟩⟩;rw[if_pos hk2,if_neg (hne hi)]
   ·obtain⟨p,m,a,b,c,d⟩:=h.pre k h0 om;refine⟨p,m,a,b,?_,?_⟩
    ·rw[if_neg hk2,if_neg (by omega:¬p=out.length)];exact c
    ·rcases d with d|⟨d,e⟩
     ·exact .inl d
     ·exact .inr ⟨d,hmem.2 (.inl e)⟩
  ·intro p m hp hm hpi;rw[hlen]at hp
   have old:∀p m,p<out.length->m∈ls->(p<i\/p=i/\m∈done)->∃q,q<(out++[go v l]).length/\(out++[go v l]).getD q 0=go ((out++[go v l]).getD p 0) m/\¬slt ((if p=out.length then W i++[l]else W p)++[m]) (if q=out.length then W i++[l]else W q):=by
    intro p m hp hm hpi;obtain⟨q,hq,e,hs⟩:=h.clo p m hp hm hpi;refine⟨q,by omega,?_,?_⟩
    ·rw[kT hq,kT hp];exact e
    ·rw[if_neg (hne hp),if_neg (hne hq)];exact hs
   rcases hpi with hpi|⟨rfl,hpi⟩
   ·exact old p m om hm (.inl hpi)
   ·rcases hmem.1 hpi with hpi|rfl
    ·exact old p m hi hm (.inr ⟨rfl,hpi⟩)
    ·refine⟨out.length,by omega,?_,?_⟩
     ·rw[hnew,kT hi,hv]
     ·rw[if_neg (hne hi),if_pos rfl];exact aET _
theorem Bfs.row{i:Nat}{v:Int}(ha:Asc ls)(hv:∀l∈ls,0<=go v l/\go v l<n):∀(rest done out:List Int) (W:Nat->List Int),Bfs go ls n i done out W->ls=done++rest->i<out.length->out.getD i 0=v->∃W',Bfs go ls n i ls (rowU out (rest.map (go v))) W'/\out.length<=(rowU out (rest.map (go v))).length
 | [],done,out,W,h,hd,hi,ho=>by
  rw[Aj]at hd;subst hd;exact⟨W,h,Ab _⟩
 |l::rest,done,out,W,h,hd,hi,ho=>by
  obtain⟨W1,h1⟩:=h.step ha hd hi ho (hv l (by rw[hd];simp));have hl:=aQu out (go v l);obtain⟨W2,h2,h3⟩:=Bfs.row ha hv rest (done++[l]) _ W1 h1 (by rw[hd];simp) (Dh hi hl) (by rw[aP0 hi];exact ho);exact⟨W2,h2,By hl h3⟩
theorem Bfs.next{i:Nat}{out:List Int}{W:Nat->List Int}(h:Bfs go ls n i ls out W):Bfs go ls n (i+1) [] out W:=by
 refine⟨h.pos,h.w0,h.o0,h.nod,h.rng,h.run,h.lts,h.asc,?_,?_⟩
 ·intro k h0 hk;obtain⟨p,m,a,b,c,d⟩:=h.pre k h0 hk;exact⟨p,m,a,b,c,.inl om⟩
 ·intro p l hp hl hpi;refine h.clo p l hp hl ?_
  rcases hpi with hpi|⟨_,hpi⟩
  ·by_cases e:p=i
   ·exact .inr ⟨e,hl⟩
   ·exact .inl om
  ·simp at hpi
theorem aMj(ha:Asc ls)(hgo:∀v l:Int,0<=v->v<n->l∈ls->0<=go v l/\go v l<n):∀(j i:Nat) (out:List Int) (W:Nat->List Int),Bfs go ls n i [] out W->i<=out.length->n<i+j->∃W',Bfs go ls n (ordB go ls j i out).length [] (ordB go ls j i out) W'
 |0,i,out,W,h,hi,hj=>by
  have:=iF h.nod h.rng;omega
 |j+1,i,out,W,h,hi,hj=>by
  unfold ordB
  by_cases hlt:i<out.length
  ·rw[if_pos hlt]
   have hm:out.getD i 0∈out:=by
    rw[Aa,Ad hlt];exact At hlt
   obtain⟨r0,r1⟩:=h.rng _ hm;obtain⟨W1,h1,h2⟩:=Bfs.row ha (fun l hl=>hgo _ l r0 r1 hl) ls [] out W h rfl hlt rfl;exact aMj ha hgo j (i+1) _ W1 h1.next om om
  ·rw[if_neg hlt];obtain rfl:i=out.length:=om;exact⟨W,h⟩
theorem Bfs.start(hn:0<n):Bfs go ls n 0 [] [0] (fun _=>[]):=by
 refine⟨by simp,rfl,rfl,by simp,?_,?_,?_,?_,?_,?_⟩
 ·intro x hx;simp at hx;subst hx;omega
 ·intro k hk;simp at hk;subst hk;rfl
 ·intro k hk l hl;cases hl
 ·intro j k h1 h2;simp at h2;omega
 ·intro k h1 h2;simp at h2;omega
 ·intro p l hp hl h
  rcases h with h|⟨_,h⟩
  ·omega
  ·simp at h
theorem Bfs.least{out:List Int}{W:Nat->List Int}(h:Bfs go ls n out.length [] out W):∀(c:Nat) (w:List Int),w.length=c->(∀l∈w,l∈ls)->∃q,q<out.length/\out.getD q 0=w.foldl go 0/\¬slt w (W q):=by
 intro c
 induction c with
 |zero=>
  intro w hw _;have:w=[]:=Bs.1 hw;subst this;exact⟨0,h.pos,h.o0,by rw[h.w0];exact aET _⟩
 |succ c ih=>
  intro w hw hl
  rcases QH w with rfl|⟨u,l,rfl⟩
  ·simp at hw
  ·obtain⟨p,hp,e,hs⟩:=ih u (by simpa using hw) fun m hm=>hl m (by simp[hm]);obtain⟨q,hq,e2,hs2⟩:=h.clo p l hp (hl l sm) (.inl hp);refine⟨q,hq,by rw[e2,e,List.foldl_append];rfl,fun k=> ?_⟩
   rcases aLG u (W p)with g|g|g
   ·rw[g]at k;exact hs2 k
   ·exact hs g
   ·exact hs2 (LZ (RF.2 (.inl g)) k)
theorem Bfs.idx{i:Nat}{done out:List Int}{W:Nat->List Int}(h:Bfs go ls n i done out W){p q:Nat}(hp:p<out.length)(hq:q<out.length)(e:out.getD p 0=out.getD q 0):p=q:=by
 rw[Aa,Ad hp,Aa,Ad hq]at e;exact(List.getElem_inj h.nod).1 e
end
end
theorem HX{p:Nat->Bool}{n:Nat}(h:(seek p n 0).isNone=true){i:Nat}(hi:i<n):p i=false:=
 lZ.1 (by simpa using h) i om om
theorem pI{al:Int}{rs:List (List Int)}{ac:List Bool}(h:bX al rs ac=true):wN (aB al).length rs:=by
 unfold bX at h;simp only[As]at h;intro r hr;obtain⟨i,hi,rfl⟩:=Cb hr;have hb:=HX h.2 hi;unfold fP at hb;rw[Aa,Ad hi]at hb;apply Eg;intro hc;rw[aJu (by simp only[Bb];omega)]at hb;cases hb
theorem fW{al:Int}{rs:List (List Int)}{ac:List Bool}(h:bX al rs ac=true):1<=rs.length/\rs.length<=12/\ac.length=rs.length/\cQ al=true:=by
 unfold bX at h;simp only[As,decide_eq_true_eq]at h;obtain⟨⟨⟨⟨h1,h2⟩,h3⟩,h4⟩,_⟩:=h;exact⟨by omega,by omega,by omega,h1⟩
def AOK(a:Aut):Prop:=bX a.al a.nx a.ac=true
theorem aSe{al:Int}{rs:List (List Int)}{ac:List Bool}(h:bX al rs ac=true){q i:Nat}(hq:q<rs.length)(hi:i<(aB al).length):0<=(rs.getD q []).getD i 0/\(rs.getD q []).getD i 0<rs.length:=by
 have hw:=pI h;unfold bX at h;simp only[As]at h;have hb:=HX h.2 hq;unfold fP C4 at hb;simp only[Bool.or_eq_false_iff,Bool.not_eq_false',decide_eq_true_eq]at hb
 have hn:(seek (badQ rs.length (rs.getD q [])) (rs.getD q []).length 0).isNone=true:=by
  cases hs:seek (badQ rs.length (rs.getD q [])) (rs.getD q []).length 0 with
  |none=>rfl
  |some r=>rw[hs]at hb;cases hb.2
 exact zN.1 (HX hn om)
theorem nV{a:Aut}(h:AOK a){q l:Int}(h0:0<=q)(h1:q<a.nx.length)(h2:0<=l)(h3:l<6):0<=goI a.al a.nx q l/\goI a.al a.nx q l<a.nx.length:=by
 unfold goI
 split
 ·rename_i hb
  exact aSe h om (xS h2 h3 hb).1
 ·exact⟨h0,h1⟩
theorem mH(al:Int):(aB al).Pairwise (·<·):=by
 unfold aB;exact List.Pairwise.filter _ dc
def nxT(a b:Aut)(v l:Int):List Int:=[goI a.al a.nx (v.tdiv b.nx.length) l*b.nx.length+goI b.al b.nx (v.tmod b.nx.length) l]
def glT(f:Bool->Bool->Bool)(a b:Aut)(v:Int):Bool:=f (a.ac.getD (v.tdiv b.nx.length).toNat false) (b.ac.getD (v.tmod b.nx.length).toNat false)
theorem A9{na nb v:Int}(hb:0<nb)(h0:0<=v)(h1:v<na*nb):(0<=v.tdiv nb/\v.tdiv nb<na)/\(0<=v.tmod nb/\v.tmod nb<nb):=by
 rw[Ep h0,Eq h0];exact⟨⟨Int.ediv_nonneg h0 om,Int.ediv_lt_of_lt_mul hb h1⟩,Int.emod_nonneg _ om,Int.emod_lt_of_pos _ hb⟩
theorem G4{x y na nb:Int}(hx:0<=x/\x<na)(hy:0<=y/\y<nb):0<=x*nb+y/\x*nb+y<na*nb:=by
 have h1:0<=x*nb:=Int.mul_nonneg hx.1 om;have h2:(x+1)*nb<=na*nb:=Ef om om;rw[Int.add_mul,Int.one_mul]at h2;omega
theorem YJ{a b:Aut}(ha:AOK a)(hb:AOK b){v c:Int}(h0:0<=v)(h1:v<(a.nx.length:Int)*b.nx.length)(hc:0<=c/\c<6):∀m∈nxT a b v c,0<=m/\m<(a.nx.length:Int)*b.nx.length:=by
 intro m hm;obtain⟨b1,b2,b3,b4⟩:=fW hb;obtain⟨p,q⟩:=A9 (na:=a.nx.length) (nb:=b.nx.length) om h0 h1;simp only[nxT,Bp]at hm;subst hm;exact G4 (nV ha p.1 p.2 hc.1 hc.2) (nV hb q.1 q.2 hc.1 hc.2)
def twoG(f:Bool->Bool->Bool)(a b:Aut)(i j:Int):List Int×Bool:=F3 (nxT a b) (glT f a b) (aB a.al) [i*b.nx.length+j] (a.nx.length*b.nx.length)
theorem aN9{f:Bool->Bool->Bool}{a b:Aut}{i j:Int}(ha:AOK a)(hb:AOK b)(hi:0<=i/\i<a.nx.length)(hj:0<=j/\j<b.nx.length):YW (nxT a b) (glT f a b) (aB a.al) (a.nx.length*b.nx.length) (i*b.nx.length+j)=twoG f a b i j:=by
 have hs:=G4 hi hj
 have hr:∀v c:Int,0<=v->v<((a.nx.length*b.nx.length:Nat):Int)->c∈aB a.al->∀m∈nxT a b v c,0<=m/\m<((a.nx.length*b.nx.length:Nat):Int):=by
  intro v c h0 h1 hc;have:=cK c hc;rw[Cg]at h1|-;exact YJ ha hb h0 h1 om
 refine sJ (aIQ hr (mH _) hs.1 (by rw[Cg];exact hs.2)) (aFp (mH _) hr (fun n hn=> ?_) sm);simp only[Bp]at hn;subst hn;rw[Cg];exact hs
def netT(a b:Aut)(i j kd:Int):Net:=⟨[],[a,b],[i,j],a.al,kd,0⟩
theorem aLS{na nb v:Int}(hb:0<nb)(h0:0<=v)(h1:v<na*nb):decN [na,nb] v=[v.tdiv nb,v.tmod nb]:=by
 obtain⟨p,q⟩:=A9 hb h0 h1
 have e:(v.tdiv nb).tmod na=v.tdiv nb:=by
  rw[Eq p.1];exact Int.emod_eq_of_lt p.1 p.2
 show [((v.tdiv nb).tmod na),v.tmod nb]=_;rw[e]
theorem aHJ{L n:Nat}(hn:11<=n)(hL:2^60<=L){a b:Aut}{i j kd:Int}(ha:AOK a)(hb:AOK b)(hal:a.al=b.al)(hi:0<=i/\i<a.nx.length)(hj:0<=j/\j<b.nx.length)(hk:kd=1\/kd=2):
  aA env L n 99 [.agg [.d .nils,.d (.ivs 2 (gE [a,b])),.d (.ivs 2 (ints [i,j])),nI a.al,nI kd,nI 0]] []=some (.tup [.d (.str (txt (twoG (if kd=1 then fun x y=>x !=y else fun x y=>x&& !y) a b i j).1)),.d (.bool (twoG (if kd=1 then fun x y=>x !=y else fun x y=>x&& !y) a b i j).2)],[]):=by
 obtain⟨a1,a2,a3,a4⟩:=fW ha;obtain⟨b1,b2,b3,b4⟩:=fW hb;have aw:=pI ha;have bw:=pI hb;have sa:aY a.nx:=⟨by omega,fun r hr=>by have:=aw r hr;have:=bQ a.al;omega⟩
 have sb:aY b.nx:=⟨by omega,fun r hr=>by have:=bw r hr;have:=bQ b.al;omega⟩
 have hprod:(a.nx.length:Int)*b.nx.length<=144:=by
  have h1:(a.nx.length:Int)*b.nx.length<=12*b.nx.length:=Ef om om;omega
 have hz:OL (netT a b i j kd)=[(a.nx.length:Int),(b.nx.length:Int)]:=rfl;have hin:=G4 hi hj;rw[<-aN9 (f:=if kd=1 then fun x y=>x !=y else fun x y=>x&& !y) ha hb hi hj]
 have key:=@VX L n hn hL 2 (gE [a,b]) kd 0 a.al (i*b.nx.length+j) [i,j] [(a.nx.length:Int),(b.nx.length:Int)] (nxT a b) (glT (if kd=1 then fun x y=>x !=y else fun x y=>x&& !y) a b) (a.nx.length*b.nx.length) sm rfl (by
   intro q hq
   match q,hq with
   |0,_=>exact⟨by simp,by simp⟩
   |1,_=>simp;omega
   |2,_=>simp;exact⟨Int.mul_nonneg om om,by omega⟩
   |q+3,hq=>simp at hq) sm (by intro z hz;simp at hz;rcases hz with rfl|rfl<;>omega) (by
   simp only[RC,and_true];refine⟨by omega,by omega,⟨by simp;exact Int.mul_nonneg hi.1 om,?_⟩,?_⟩
   ·simp
    have:i*(b.nx.length:Int)<=i*12:=Int.mul_le_mul_of_nonneg_left om hi.1;omega
   ·simp;omega) (by simp[encN]) hin.1 (by rw[Cg];exact hin.2)
   (fun {n} hn=>by
    have:=@US L n hn (netT a b i j kd) (by simp[netT]) (by simp[netT]) (fun x hx=>by simp[netT]at hx;rcases hx with rfl|rfl<;>omega) hL;exact this)
   (fun v l hv hl {R n hq k} hn=>by
    have hl2:=cK l hl;have hv2:(v:Int)<(a.nx.length:Int)*b.nx.length:=by rw[<-Cg];omega
    obtain⟨p,q⟩:=A9 (na:=a.nx.length) (nb:=b.nx.length) om om hv2;rw[aLS om om hv2];have ga:=nV ha p.1 p.2 hl2.1 om;have gb:=nV hb q.1 q.2 hl2.1 om
    have hnx:nexG (fun i=>if i=0 then [goI a.al a.nx ((v:Int).tdiv b.nx.length) l]else [goI b.al b.nx ((v:Int).tmod b.nx.length) l]) [(a.nx.length:Int),(b.nx.length:Int)] 2 0 [0]=nxT a b v l:=by
     simp[nexG,mulN,nxT]
    rw[<-hnx];refine b6 rfl (@XP L n hn hL 0 2 2 [] (gE [a,b]) (ints [i,j]) a.al kd 0 [(a.nx.length:Int),(b.nx.length:Int)] [(v:Int).tdiv b.nx.length,(v:Int).tmod b.nx.length] l (fun i=>if i=0 then [goI a.al a.nx ((v:Int).tdiv b.nx.length) l]else [goI b.al b.nx ((v:Int).tmod b.nx.length) l]) (fun i=>if i=0 then 0 else if i=1 then 11 else 143) rfl sm (fun t ht {R n hq k} hn=> ?_) (fun t ht=> ?_) (fun t ht=> ?_) (fun t ht c hc=> ?_) sm (fun t ht=> ?_)) rfl (.inr rfl)
    ·match t,ht with
     |0,_=>exact b6 rfl (BE hn (netT a b i j kd) 0 _ l (Ab _) (by simp[netT]) (by simp[netT]) (by simp[netT]) a rfl sa aw p.1 p.2 hl2.1 om hL) rfl (.inr rfl)
     |1,_=>exact b6 rfl (BE hn (netT a b i j kd) 1 _ l (by simp[netT]) (by simp[netT]) (by simp[netT]) (by simp[netT]) b rfl sb bw q.1 q.2 hl2.1 om hL) rfl (.inr rfl)
     |t+2,ht=>exact absurd ht (by show ¬(t+2<2);omega)
    ·match t,ht with
     |0,_=>simp;omega
     |1,_=>simp;omega
     |t+2,ht=>exact absurd ht (by show ¬(t+2<2);omega)
    ·show(if t=0 then _ else _:List Int).length<=16
     split<;>simp
    ·match t,ht with
     |0,_=>simp at hc;subst hc;simpa using ga
     |1,_=>simp at hc;subst hc;simpa using gb
     |t+2,ht=>exact absurd ht (by show ¬(t+2<2);omega)
    ·match t,ht with
     |0,_=>simp;omega
     |1,_=>simp;omega
     |t+2,ht=>exact absurd ht (by show ¬(t+2<2);omega))
   (fun v hv {R n k} hn=>by
    have hv2:(v:Int)<(a.nx.length:Int)*b.nx.length:=by rw[<-Cg];omega
    obtain⟨p,q⟩:=A9 (na:=a.nx.length) (nb:=b.nx.length) om om hv2;rw[aLS om om hv2]
    have hg:NT (netT a b i j kd) [(v:Int).tdiv b.nx.length,(v:Int).tmod b.nx.length] ((movT (nxT a b) (aB a.al) (a.nx.length*b.nx.length)).getD v [])=glT (if kd=1 then fun x y=>x !=y else fun x y=>x&& !y) a b v:=by
     rcases hk with rfl|rfl
     ·rfl
     ·rfl
    rw[<-hg];exact mJ (aJG hn (netT a b i j kd) [(v:Int).tdiv b.nx.length,(v:Int).tmod b.nx.length] ((movT (nxT a b) (aB a.al) (a.nx.length*b.nx.length)).getD v []) (by rcases hk with rfl|rfl<;>simp[netT]) (by simp[netT]) (by simp[netT]) sm ⟨by simp[netT],by simp[netT],by simp[netT];omega,p.1,by show(v:Int).tdiv b.nx.length<(a.ac.length:Int);omega⟩ (fun _=>⟨by simp[netT],by simp[netT],by simp[netT];omega,q.1,by show(v:Int).tmod b.nx.length<(b.ac.length:Int);omega⟩) hL) rfl)
   (fun v c h0 h1 hc=>by
    have:=cK c hc;rw[Cg]at h1|-;exact⟨by simp[nxT],YJ ha hb h0 h1 om⟩)
 exact key
theorem aSI{l:List UInt8}{i j p:Nat}(hi:i<l.length)(hj:j<l.length):(swp l i j).getD p 0=if p=j then l.getD i 0 else if p=i then l.getD j 0 else l.getD p 0:=by
 unfold swp;simp only[Aa,Cj,Bj]
 by_cases h1:p=j
 ·subst h1;simp[hj]
 ·have h1':¬j=p:=fun h=>h1 h.symm
  by_cases h2:p=i
  ·subst h2;simp[hi,h1,h1']
  ·have h2':¬i=p:=fun h=>h2 h.symm;simp only[h1,h1',h2,h2',if_false]
theorem aIX:∀(q:Nat) (i j:Int) (l:List UInt8),0<=i->j<l.length->j-i<=q->∀p:Nat,p<l.length->(revG q i j l).2.2.getD p 0=if i<=p/\(p:Int)<=j then l.getD (i+j-p).toNat 0 else l.getD p 0
 |0,i,j,l,h0,h1,h2,p,hp=>by
  unfold revG
  split
  ·rename_i h
   rw[show(i+j-p).toNat=p by omega]
  ·rfl
 |q+1,i,j,l,h0,h1,h2,p,hp=>by
  unfold revG
  split
  ·rename_i hlt
   have hg:=fun(x:Nat)=>aSI (l:=l) (i:=i.toNat) (j:=j.toNat) (p:=x) om om;rw[aIX q (i+1) (j-1) _ om (by rw[BO];omega) om p (by rw[BO];exact hp)]
   by_cases c1:i+1<=(p:Int)/\(p:Int)<=j-1
   ·rw[if_pos c1,hg,if_neg (by omega:¬(i+1+(j-1)-(p:Int)).toNat=j.toNat),if_neg (by omega:¬(i+1+(j-1)-(p:Int)).toNat=i.toNat),if_pos (by omega:i<=(p:Int)/\(p:Int)<=j)]
    congr 1
    omega
   ·rw[if_neg c1,hg]
    by_cases c2:p=j.toNat
    ·rw[if_pos c2,if_pos (by omega:i<=(p:Int)/\(p:Int)<=j)]
     congr 1
     omega
    ·rw[if_neg c2]
     by_cases c3:p=i.toNat
     ·rw[if_pos c3,if_pos (by omega:i<=(p:Int)/\(p:Int)<=j)]
      congr 1
      omega
     ·rw[if_neg c3,if_neg (by omega:¬(i<=(p:Int)/\(p:Int)<=j))]
  ·rename_i hlt
   split
   ·rename_i h
    rw[show(i+j-p).toNat=p by omega]
   ·rfl
theorem aPZ(l:List UInt8):(revG (l.length+1) 0 ((l.length:Int)-1) l).2.2=l.reverse:=by
 have hl:=(aD6 (l.length+1) 0 ((l.length:Int)-1) l (Int.le_refl _) om).1;apply List.ext_getElem
 ·rw[hl,List.length_reverse]
 ·intro p h1 h2;rw[hl]at h1;have:=aIX (l.length+1) 0 ((l.length:Int)-1) l (Int.le_refl _) om om p h1;rw[if_pos om,Aa,Ad (by rw[hl];exact h1),Aa,Ad om]at this;simp only[Bb]at this;rw[this,List.getElem_reverse]
  congr 1
  omega
theorem aFU{l:List PStep}{k:Nat}(h:k<l.length):(((cA l).drop (k*3)).map A.d).head? =some (.d (.int .i64 (l.getD k default).par)):=by
 rw[CD,cB h (d:=default)];rfl
theorem aOU{l:List PStep}{k:Nat}(h:k<l.length):(((cA l).drop (k*3+1)).map A.d).head? =some (.d (.int .i64 (l.getD k default).lt)):=by
 rw[<-Ck,CD,cB h (d:=default)];rfl
def aIc(st:List PStep):Nat->Nat->Nat
 |0,i=>i
 |j+1,i=>if 0<=(st.getD i default).par then aIc st j (st.getD i default).par.toNat else i
def Tree(st:List PStep):Prop:=∀k,k<st.length->((st.getD k default).par<(k:Int))/\(0<=(st.getD k default).lt/\(st.getD k default).lt<=5)
theorem aGf(st:List PStep):∀(j i:Nat),(gD st j i).length<=j
 |0,i=>Ab _
 |j+1,i=>by
  unfold gD
  split
  ·have:=aGf st j (st.getD i default).par.toNat;simp only[Af,Ae,Ac];omega
  ·simp
theorem aCG{R:Type}{L n:Nat}(hn:2<=n){st:List PStep}(ht:Tree st)(hs:st.length<=16777216){k:KE R}:∀(j i m:Nat) (o:List UInt8) (len:Nat) (hi:i<st.length) (hj:i<j) (hm:j<=m) (hlen:len=o.length) (ho:o.length+i<=20000000),
  aR env (aA env L n) L 0 [0,0,0,2] Bz44 (EQ 0) (Z1 (U1 (Z2 (Z1 (U16 (U8 (U2 (U1 ([]))))))))) m (.d (.ivs st.length (cA st))::Y1 (.d (.str [])::.sl 0 0 0 len::nI i::Y16 (Y8 (Y2 (Y1 ([])))))) [.arr (bK o) 1 0] k
  =k (.exit 0) (.d (.ivs st.length (cA st))::Y1 (.d (.str [])::.sl 0 0 0 (o++(txt (gD st j i)).reverse).length::nI ((aIc st j i:Nat):Int)::Y16 (Y8 (Y2 (Y1 ([])))))) [.arr (bK (o++(txt (gD st j i)).reverse)) 1 0]:=by
 intro j
 induction j with
 |zero=>intro i m o len hi hj;omega
 |succ j ih=>
  intro i m o len hi hj hm hlen ho;obtain _|m:=m;omega;subst hlen;obtain⟨t1,t2,t3⟩:=ht i hi;have hc:(i:Int)<st.length:=om
  by_cases hp:0<=(st.getD i default).par
  ·have ih':=ih (st.getD i default).par.toNat m (o++[cN (st.getD i default).lt]) (o.length+1) om om om sm (by rw[Af,Cu];omega);rw[show(((st.getD i default).par.toNat:Nat):Int)=(st.getD i default).par by omega]at ih';have h5:(((st.getD i default).par.toNat:Nat):Int)=(st.getD i default).par:=om;unfold gD aIc;rw[if_pos hp,if_pos hp];clear ih;have e:(txt (gD st j (st.getD i default).par.toNat++[(st.getD i default).lt])).reverse=[cN (st.getD i default).lt]++(txt (gD st j (st.getD i default).par.toNat)).reverse:=by simp[txt]
   rw[e,<-Al];have g1:=aFU hi;have g2:=aOU hi;generalize st.getD i default=s at *
   simp-implicitDefEqProofs (maxSteps:=9^7) (disch:=try exact Dz) only[↓DN,↓kRet,UP,simprocAttr,PE,Cf,Ck,hc,hp,g1,g2,↓LX,↓ih',FW,BG,Tryz.f131]
  ·unfold gD aIc;rw[if_neg hp,if_neg hp];have g1:=aFU hi;simp only[txt,Ar,List.reverse_nil,Aj]
   simp-implicitDefEqProofs (maxSteps:=9^7) (disch:=try exact Dz) only[↓DN,↓kRet,UP,simprocAttr,PE,hc,hp,g1,FW,BG,Tryz.f131]
theorem SB{L n:Nat}(hn:3<=n)(st:List PStep)(ht:Tree st)(hs:st.length<=16777216)(h0:0<st.length)(hL:2^60<=L):aA env L n 131 [.d (.ivs st.length (cA st))] []=some (.d (.str (YR st)),[]):=by
 have loop_w:=fun {R n k} hn=> @aCG R L n hn st ht hs k st.length (st.length-1) L [] 0 om om om rfl (by simp;omega);simp only[Ap,aNd]at loop_w;have hwl:=aGf st st.length (st.length-1);have hb:(txt (gD st st.length (st.length-1))).reverse.length<=2147483648:=by simp[txt];omega
 have hrr:(txt (gD st st.length (st.length-1))).reverse.reverse=YR st:=by rw[List.reverse_reverse];rfl
 have hwlen:(txt (gD st st.length (st.length-1))).reverse.length=(YR st).length:=by simp[YR]
 generalize(txt (gD st st.length (st.length-1))).reverse=w at *
 have e1:IntKind.i64.wrap ((st.length:Int)-1)=((st.length-1:Nat):Int):=by
  rw[show(st.length:Int)-1=((st.length-1:Nat):Int) by omega];exact zU om om
 have kc_r:=fun {R:Type} {n id g:Nat} {hq:H} {k:KA R} (hn:1<=n) (hi:hq[id]? =some (.arr (bK w) 1 g))=> @aTl R L n id g hq k hn w hi hb hL;have er:=aPZ w;rw[hrr]at er;simp only[er]at kc_r;simp only[hwlen]at kc_r;simp only[hwlen]at loop_w;have h1:(1:Int)<=st.length:=om;obtain _|n:=n;omega
 simp-implicitDefEqProofs (maxSteps:=9^7) (disch:=try exact Dz) only[↓DN,↓kAsg,↓kRet,UP,simprocAttr,↓loop_w,e1,↓kc_r,↓NW,aH6,XY,Tryz.f131]
theorem aHD:type_of% fun {L} st ht hs h0 hL=>kt fun hn=> @SB L _ hn st ht hs h0 hL:=fun {L} st ht hs h0 hL=>kt fun hn=> @SB L _ hn st ht hs h0 hL
theorem aDq{L:Nat}{id0 g0 o0 len0:Nat}:KV L 131 [.sl id0 g0 o0 len0]:=fun _ _ _ _=>eA yK
theorem aJC{st:List PStep}{p l:Int}{f:List Int}:st.length<=(addP st p l f).length:=by unfold addP;split<;>simp
theorem aIz{st:List PStep}{i:Nat}{l:Int}{f:List Int}(ht:Tree st)(hi:i<st.length)(hl:0<=l/\l<=5):Tree (addP st i l f):=by
 unfold addP
 split
 ·exact ht
 ·intro k hk;simp only[Af,Ae,Ac]at hk
  by_cases h:k<st.length
  ·rw[kT h];exact ht k h
  ·obtain rfl:k=st.length:=om;rw[WB];exact⟨by show(i:Int)<_;omega,hl⟩
theorem aNP{R:Type}{L n dn:Nat}(hn:dn+5<=n)(hL:2^60<=L){I:Int->Prop}{gl:Int->Bool}{nf gf:FuncId}{caps gcaps:List D}{size:Nat}{nx:Int->Int->List Int}{gn:Int->Int->Nat}{ls ns:List Int}{ii:Nat}
  (kc_n:∀ {R:Type} {n id:Nat} {hq:H} {k:KA R} (x c:Int) (o:List Int),dn+4<=n->I x->0<=c->c<6->o.length<=4200000000->hq[id]? =some (.arr (ints o) 1 0)->aW env (aA env L n) hq nf (nI x::nI c::.sl id 0 0 o.length::caps.map A.d) k=k (.sl id (gn x c) 0 (o++nx x c).length) (hq.set id (.arr (ints (o++nx x c)) 1 (gn x c))))
  (kc_g:∀ {R:Type} {n:Nat} {hq:H} {k:KA R} (x:Int),2<=n->I x->aW env (aA env L n) hq gf (nI x::gcaps.map A.d) k=k (.d (.bool (gl x))) hq)
  (hr:∀x,I x->0<=x/\x<size) (hsz:size<=1000000) (hI:∀x∈ns,I x) (hx:∀x c,I x->0<=c->c<6->∀y∈nx x c,I y) (hw:∀x c,(nx x c).length<=4096) (hls:∀c∈ls,0<=c/\c<=5) (hll:ls.length<=6) (hnl:ns.length<=size) {k:KE R}:∀(j q m:Nat) (seen:List Bool) (st:List PStep) (sn:Nat) (hi:q+j=ls.length) (hm:j<m) (hg:PGood I size seen st) (htr:Tree st) (hii:ii<st.length) (hns:(st.getD ii default).ns=ns) (hsn:sn=st.length),
  aR env (aA env L n) L 0 (W16 (W2 [2])) Bz2 (iU 1) (U2 (Z2 (U4 (U2 (Z2 (U1 (Z2 (Z1 (U16 (U1 (Z2 (Z1 (U16 (U8 (U2 (U1 ([]))))))))))))))))) m (Y2 (.d (.ivs ls.length (ints ls))::.d (.fn nf caps)::Y4 (Y2 (.d (.str [])::.d (.bool false)::Y1 (.ptr 0 0 0::.clo 130 [.ptr 1 0 0,.ptr 2 0 0,.ptr 0 0 0]::nI ii::Y16 (Y1 (.d (.ivs ls.length (ints ls))::nI (ls.length)::nI q::Y16 (Y8 (Y2 (Y1 ([]))))))))))) [.box [.sl 3 0 0 sn],.box [.sl 4 0 0 size],.box [.d (.fn gf gcaps)],.arr (cA st) 3 0,.arr (dA seen) 1 0] k
  =if(ltG nx gl ns ii (ls.drop q) (seen,st)).1=true then
    k .ret (Y2 (.d (.ivs ls.length (ints ls))::.d (.fn nf caps)::Y4 (Y2 (.d (.str ((YR (ltG nx gl ns ii (ls.drop q) (seen,st)).2.2)))::.d (.bool true)::Y1 (.ptr 0 0 0::.clo 130 [.ptr 1 0 0,.ptr 2 0 0,.ptr 0 0 0]::nI ii::Y16 (Y1 (.d (.ivs ls.length (ints ls))::nI (ls.length)::nI ((q+ltI nx gl ns ii (ls.drop q) (seen,st):Nat):Int)::Y16 (Y8 (Y2 (Y1 ([]))))))))))) [.box [.sl 3 0 0 (ltG nx gl ns ii (ls.drop q) (seen,st)).2.2.length],.box [.sl 4 0 0 size],.box [.d (.fn gf gcaps)],.arr (cA (ltG nx gl ns ii (ls.drop q) (seen,st)).2.2) 3 0,.arr (dA (ltG nx gl ns ii (ls.drop q) (seen,st)).2.1) 1 0]
   else k (.exit 2) (Y2 (.d (.ivs ls.length (ints ls))::.d (.fn nf caps)::Y4 (Y2 (.d (.str [])::.d (.bool false)::Y1 (.ptr 0 0 0::.clo 130 [.ptr 1 0 0,.ptr 2 0 0,.ptr 0 0 0]::nI ii::Y16 (Y1 (.d (.ivs ls.length (ints ls))::nI (ls.length)::nI (ls.length)::Y16 (Y8 (Y2 (Y1 ([]))))))))))) [.box [.sl 3 0 0 (ltG nx gl ns ii (ls.drop q) (seen,st)).2.2.length],.box [.sl 4 0 0 size],.box [.d (.fn gf gcaps)],.arr (cA (ltG nx gl ns ii (ls.drop q) (seen,st)).2.2) 3 0,.arr (dA (ltG nx gl ns ii (ls.drop q) (seen,st)).2.1) 1 0]:=by
 intro j
 induction j with
 |zero=>
  intro q m seen st sn hi hm hg htr hii hns hsn;obtain _|m:=m;omega;obtain rfl:q=ls.length:=om;subst hsn
  simp-implicitDefEqProofs (maxSteps:=9^7) (disch:=try exact Dz) only[↓DN,↓kRet,UP,simprocAttr,Ah,rV,rB,Tryz.f105];simp only[Bw,ltG,Ak,if_false]
 |succ j ih=>
  intro q m seen st sn hi hm hg htr hii hns hsn;obtain _|m:=m;omega;subst hsn;have hc:(q:Int)<ls.length:=om;have hk:q<ls.length:=om;have hmem:ls.getD q 0∈ls:=by rw[Aa,Ad hk];exact At hk
  obtain⟨c0,c5⟩:=hls _ hmem;have c6:ls.getD q 0<6:=om;have hiI:(ii:Int)<st.length:=om;have hroom:=hg.room;have hstl:st.length<=4294967290:=om;rw[cB hk (d:=0)]
  have hI2:∀y∈flat nx ns (ls.getD q 0),I y:=by
   intro y hy;obtain⟨x,h1,h2⟩:=Eb.1 hy;exact hx x (ls.getD q 0) (hI x h1) c0 c6 y h2
  have hfl:=aIq (c:=ls.getD q 0) hw ns;have hfl2:(flat nx ns (ls.getD q 0)).length<=4294967290:=om;obtain⟨g1,g2,g3⟩:=M1 (gl:=gl) hg hI2 hr (ii:Int) (ls.getD q 0);have htr2:Tree (addP st ii (ls.getD q 0) (visG gl (flat nx ns (ls.getD q 0)) seen [] false).2.1):=aIz htr hii ⟨c0,c5⟩;have hlen2:=aJC (st:=st) (p:=(ii:Int)) (l:=ls.getD q 0) (f:=(visG gl (flat nx ns (ls.getD q 0)) seen [] false).2.1);have ih':=ih (q+1) m (visG gl (flat nx ns (ls.getD q 0)) seen [] false).1 (addP st ii (ls.getD q 0) (visG gl (flat nx ns (ls.getD q 0)) seen [] false).2.1) _ om om g1 htr2 om (by rw[aQE hii];exact hns) rfl;have e4:((q+1:Nat):Int)=(q:Int)+1:=om;rw[e4]at ih';have loop_c:=fun {R:Type} {n:Nat} (hn:dn+4<=n) {k:KE R}=> @aNy R L n dn hn hL I nf caps (.fn gf gcaps) size nx gn ls ns (cA st) seen st.length ii q (ls.getD q 0) (fun {R n id hq k}=>kc_n) hI hw c0 c6 om k ns.length 0 L [] 0 om om sm rfl;simp only[Ba,Ap,mL,Aq]at loop_c;have kc_v:=fun {R n k} hn=> @aSR R L n k hn hL I gl gf gcaps size (ii:Int) (ls.getD q 0) (flat nx ns (ls.getD q 0)) (fun {R n hq k}=>kc_g) hI2 hr om hfl2 seen hg.len st hstl;have hroom2:=g1.room;have kl_w:=@aHD L _ htr2 om om hL;simp only[ltG,ltI];clear ih hmem g1 g2 g3 hg hI hI2 hx hw hls hr kc_n kc_g hroom2;generalize flat nx ns (ls.getD q 0)=fm at *;generalize visG gl fm seen [] false=v at *;obtain⟨v1,v2,v3⟩:=v;simp only at ih' kc_v kl_w|-
  cases v3 with
  |true=>
   simp-implicitDefEqProofs (maxSteps:=9^7) (disch:=try exact Dz) only[↓DN,↓kAsg,↓kRet,UP,simprocAttr,↓aDq,PE,hc,hiI,hns,↓loop_c,↓kc_v,↓kl_w,rV,rB,Tryz.f105]
  |false=>
   simp only[Ak,if_false];generalize ltI nx gl ns (ii:Int) (ls.drop (q+1)) (v1,addP st ii (ls.getD q 0) v2)=T at *;rw[show q+(T+1)=q+1+T by omega]
   simp-implicitDefEqProofs (maxSteps:=9^7) (disch:=try exact Dz) only[↓DN,↓kAsg,↓kRet,UP,simprocAttr,PE,hc,hiI,hns,↓loop_c,↓kc_v,↓ih',rV,rB,Tryz.f105]
theorem VW{nx:Int->Int->List Int}{gl:Int->Bool}{ns:List Int}{i:Nat}:∀(ls:List Int) (hls:∀c∈ls,0<=c/\c<=5) (seen:List Bool) (st:List PStep),Tree st->i<st.length->Tree (ltG nx gl ns i ls (seen,st)).2.2
 | [],_,_,_,h,_=>h
 |l::ls,hls,seen,st,h,hi=>by
  have h2:Tree (addP st i l (visG gl (flat nx ns l) seen [] false).2.1):=aIz h hi (hls l Bi);unfold ltG
  split
  ·exact h2
  ·exact VW ls (fun c hc=>hls c (Be _ hc)) _ _ h2 (Dh hi aJC)
theorem aNS{R:Type}{L n dn:Nat}(hn:dn+6<=n)(hL:2^60<=L){I:Int->Prop}{gl:Int->Bool}{nf gf:FuncId}{caps gcaps:List D}{size:Nat}{nx:Int->Int->List Int}{gn:Int->Int->Nat}{ls:List Int}
  (kc_n:∀ {R:Type} {n id:Nat} {hq:H} {k:KA R} (x c:Int) (o:List Int),dn+4<=n->I x->0<=c->c<6->o.length<=4200000000->hq[id]? =some (.arr (ints o) 1 0)->aW env (aA env L n) hq nf (nI x::nI c::.sl id 0 0 o.length::caps.map A.d) k=k (.sl id (gn x c) 0 (o++nx x c).length) (hq.set id (.arr (ints (o++nx x c)) 1 (gn x c))))
  (kc_g:∀ {R:Type} {n:Nat} {hq:H} {k:KA R} (x:Int),2<=n->I x->aW env (aA env L n) hq gf (nI x::gcaps.map A.d) k=k (.d (.bool (gl x))) hq)
  (hr:∀x,I x->0<=x/\x<size) (hsz:size<=1000000) (hx:∀x c,I x->0<=c->c<6->∀y∈nx x c,I y) (hw:∀x c,(nx x c).length<=4096) (hls:∀c∈ls,0<=c/\c<=5) (hll:ls.length<=6) {k:KE R}:∀(j i m:Nat) (seen:List Bool) (st:List PStep) (sn:Nat) (hi:st.length+gY seen<=i+j) (hi2:i<=st.length) (hm:j<m) (hg:PGood I size seen st) (htr:Tree st) (hsn:sn=st.length),
  aR env (aA env L n) L 0 (W16 (W2 [2])) Bz2 (iU 0) (U2 (Z2 (U4 (U2 (Z2 (U1 (Z2 (Z1 (U32 (U8 (U4 (U2 (U1 ([])))))))))))))) m (Y2 (.d (.ivs ls.length (ints ls))::.d (.fn nf caps)::Y4 (Y2 (.d (.str [])::.d (.bool false)::Y1 (.ptr 0 0 0::.clo 130 [.ptr 1 0 0,.ptr 2 0 0,.ptr 0 0 0]::nI i::Y32 (Y8 (Y4 (Y2 (Y1 ([])))))))))) [.box [.sl 3 0 0 sn],.box [.sl 4 0 0 size],.box [.d (.fn gf gcaps)],.arr (cA st) 3 0,.arr (dA seen) 1 0] k
  =if(outG nx gl ls j i (seen,st)).1=true then
    k .ret (Y2 (.d (.ivs ls.length (ints ls))::.d (.fn nf caps)::Y4 (Y2 (.d (.str ((YR (outG nx gl ls j i (seen,st)).2.2)))::.d (.bool true)::Y1 (.ptr 0 0 0::.clo 130 [.ptr 1 0 0,.ptr 2 0 0,.ptr 0 0 0]::nI ((outI nx gl ls j i (seen,st):Nat):Int)::Y32 (Y8 (Y4 (Y2 (Y1 ([])))))))))) [.box [.sl 3 0 0 (outG nx gl ls j i (seen,st)).2.2.length],.box [.sl 4 0 0 size],.box [.d (.fn gf gcaps)],.arr (cA (outG nx gl ls j i (seen,st)).2.2) 3 0,.arr (dA (outG nx gl ls j i (seen,st)).2.1) 1 0]
   else k (.exit 0) (Y2 (.d (.ivs ls.length (ints ls))::.d (.fn nf caps)::Y4 (Y2 (.d (.str [])::.d (.bool false)::Y1 (.ptr 0 0 0::.clo 130 [.ptr 1 0 0,.ptr 2 0 0,.ptr 0 0 0]::nI ((outI nx gl ls j i (seen,st):Nat):Int)::Y32 (Y8 (Y4 (Y2 (Y1 ([])))))))))) [.box [.sl 3 0 0 (outG nx gl ls j i (seen,st)).2.2.length],.box [.sl 4 0 0 size],.box [.d (.fn gf gcaps)],.arr (cA (outG nx gl ls j i (seen,st)).2.2) 3 0,.arr (dA (outG nx gl ls j i (seen,st)).2.1) 1 0]:=by
 intro j
 induction j with
 |zero=>
  intro i m seen st sn hi hi2 hm hg htr hsn;obtain _|m:=m;omega;obtain rfl:i=st.length:=om;subst hsn;simp only[outG,outI,Ak,if_false]
  simp-implicitDefEqProofs (maxSteps:=9^7) (disch:=try exact Dz) only[↓DN,↓kRet,UP,simprocAttr,Ah,lS,mF,Tryz.f105]
 |succ j ih=>
  intro i m seen st sn hi hi2 hm hg htr hsn;obtain _|m:=m;omega;subst hsn
  by_cases hc:i<st.length
  ·have hci:(i:Int)<st.length:=om;have hroom:=hg.room;have hmem:st.getD i default∈st:=by rw[Aa,Ad hc];exact At hc
   have hI:=hg.node _ hmem;have hnl:=hg.wide _ hmem;obtain⟨k1,k2,k3⟩:=RY (gl:=gl) (nx:=nx) (p:=(i:Int)) hr hI ls (seen,st) (fun x c h1 h2=>hx x c h1 (hls c h2).1 (by have:=(hls c h2).2;omega)) hg;have ktr:=VW (gl:=gl) (nx:=nx) (ns:=(st.getD i default).ns) ls hls seen st htr hc;have loop_b:=fun {R:Type} {n:Nat} (hn:dn+5<=n) {k:KE R}=> @aNP R L n dn hn hL I gl nf gf caps gcaps size nx gn ls (st.getD i default).ns i (fun {R n id hq k}=>kc_n) (fun {R n hq k}=>kc_g) hr hsz hI hx hw hls hll hnl k ls.length 0 L seen st st.length om om hg htr hc rfl rfl;simp only[Ba,Aq,Ag]at loop_b;have ih':=ih (i+1) m (ltG nx gl (st.getD i default).ns i ls (seen,st)).2.1 (ltG nx gl (st.getD i default).ns i ls (seen,st)).2.2 _ (by have:(ltG nx gl (st.getD i default).ns i ls (seen,st)).2.2.length+gY (ltG nx gl (st.getD i default).ns i ls (seen,st)).2.1<=st.length+gY seen:=k2;omega) (by have:st.length<=(ltG nx gl (st.getD i default).ns i ls (seen,st)).2.2.length:=k3;omega) om k1 ktr rfl;have e4:((i+1:Nat):Int)=(i:Int)+1:=om;rw[e4]at ih';simp only[outG,outI,hc,if_true];clear ih hmem k1 k2 k3 ktr hg hI hx hw hls hr kc_n kc_g hnl;generalize ltI nx gl (st.getD i default).ns (i:Int) ls (seen,st)=T at *;generalize ltG nx gl (st.getD i default).ns (i:Int) ls (seen,st)=w at *;obtain⟨w0,w1,w2⟩:=w;simp only at ih' loop_b|-;have hll3:ls.length<=4294967290:=om
   cases w0 with
   |true=>
    simp only[if_true]at loop_b
    simp-implicitDefEqProofs (maxSteps:=9^7) (disch:=try exact Dz) only[↓DN,↓kRet,UP,simprocAttr,hci,↓loop_b,lS,mF,Tryz.f105]
   |false=>
    simp only[Ak,if_false]at loop_b|-
    simp-implicitDefEqProofs (maxSteps:=9^7) (disch:=try exact Dz) only[↓DN,↓kRet,UP,simprocAttr,hci,↓loop_b,↓ih',lS,mF,Tryz.f105]
  ·obtain rfl:i=st.length:=om;simp only[outG,outI,hc,Ak,if_false]
   simp-implicitDefEqProofs (maxSteps:=9^7) (disch:=try exact Dz) only[↓DN,↓kRet,UP,simprocAttr,Ah,lS,mF,Tryz.f105]
theorem RE{n:Int}{h:H}(h0:0<=n)(h1:n<=4294967296):gR env.P h 24 n n=some (.sl h.length 0 0 n.toNat,h++[.arr (dA (List.replicate n.toNat false)) 1 0]):=by
 have hm:n<=(bH:Nat):=by unfold bH;omega
 have he:cR env.P 24=some 4:=kr;have hz:dG env.P 4=some (.d (.bool false)):=kr;have hok:eF env.P 4=true:=kr;have hc:env.P.cellsOf 4=1:=kr;simp only[gR,he,hz,aZ,yW,Az,hok,h0,hm,hc,Int.le_refl,and_self,if_true,dA,List.map_replicate,List.flatten_replicate_singleton]
theorem ON{L n dn:Nat}(hn:dn+7<=n)(hL:2^60<=L){I:Int->Prop}{gl:Int->Bool}{nf gf:FuncId}{caps gcaps:List D}{size:Nat}{nx:Int->Int->List Int}{gn:Int->Int->Nat}{ls ns:List Int}
  (kc_n:∀ {R:Type} {n id:Nat} {hq:H} {k:KA R} (x c:Int) (o:List Int),dn+4<=n->I x->0<=c->c<6->o.length<=4200000000->hq[id]? =some (.arr (ints o) 1 0)->aW env (aA env L n) hq nf (nI x::nI c::.sl id 0 0 o.length::caps.map A.d) k=k (.sl id (gn x c) 0 (o++nx x c).length) (hq.set id (.arr (ints (o++nx x c)) 1 (gn x c))))
  (kc_g:∀ {R:Type} {n:Nat} {hq:H} {k:KA R} (x:Int),2<=n->I x->aW env (aA env L n) hq gf (nI x::gcaps.map A.d) k=k (.d (.bool (gl x))) hq)
  (hr:∀x,I x->0<=x/\x<size) (hsz:size<=1000000) (hI:∀x∈ns,I x) (hx:∀x c,I x->0<=c->c<6->∀y∈nx x c,I y) (hw:∀x c,(nx x c).length<=4096) (hls:∀c∈ls,0<=c/\c<=5) (hll:ls.length<=6) (hne:ns≠[]) (hnl:ns.length<=size):
  aA env L n 105 [nI size,.d (.ivs ns.length (ints ns)),.d (.ivs ls.length (ints ls)),.d (.fn nf caps),.d (.fn gf gcaps)] []=some (.tup [.d (.str (txt (F3 nx gl ls ns size).1)),.d (.bool (F3 nx gl ls ns size).2)],[]):=by
 have hs0:(0:Int)<=size:=om;have hs1:(size:Int)<=4294967296:=om;have kc_v:=fun {R:Type} {n:Nat} {k:KA R} {p l:Int} (hn:4<=n)=> @aRZ R L n k hn hL I gl gf gcaps size p l ns (fun {R n hq k}=>kc_g) hI hr om om hne;have hu:gY (List.replicate size false)=size:=by simp[gY]
 have hg0:PGood I size (List.replicate size false) []:=⟨by simp,by simp,by rw[hu];simp,by simp⟩
 obtain⟨g1,g2,g3⟩:=M1 (gl:=gl) hg0 hI hr (-1) 0;have hpos:=aJn (size:=size) hne;rw[<-(yT gl ns (List.replicate size false) [] false).2]at hpos;unfold F3;generalize visG gl ns (List.replicate size false) [] false=r at *;obtain⟨r0,r1,r2⟩:=r;simp only at g1 g2 g3 hpos kc_v|-
 have ha:addP [] (-1) 0 r1=[⟨-1,0,r1⟩]:=by
  unfold addP;rw[if_neg (Ee.1 hpos)];rfl
 rw[ha]at g1 g2
 have htr:Tree [⟨-1,0,r1⟩]:=by
  intro k hk;obtain rfl:k=0:=by simpa using hk
  exact⟨by show(-1:Int)<_;omega,by show(0:Int)<=0/\(0:Int)<=5;decide⟩
 have loop_a:=fun {R:Type} {n:Nat} (hn:dn+6<=n) {k:KE R}=> @aNS R L n dn hn hL I gl nf gf caps gcaps size nx gn ls (fun {R n id hq k}=>kc_n) (fun {R n hq k}=>kc_g) hr hsz hx hw hls hll k (size+1) 0 L r0 [⟨-1,0,r1⟩] 1 (by rw[hu]at g2;simp only[Ac,Ag]at g2;omega) sm om g1 htr rfl;simp only[Aq]at loop_a;have ee:(cA [⟨-1,0,r1⟩])=[.int .i64 (-1),.int .i64 0,.ivs r1.length (ints r1)]:=rfl;rw[ha];clear g1 g2 g3 hg0 hI hx hw hls hr kc_n kc_g htr
 cases r2 with
 |true=>
  obtain _|n:=n;omega
  simp-implicitDefEqProofs (maxSteps:=9^7) (disch:=try exact Dz) only[↓DN,↓kAsg,↓kRet,UP,simprocAttr,↓RE,↓kc_v,BS,vT,Tryz.f105]<;>rfl
 |false=>
  simp only[Ak,if_false];generalize outI nx gl ls (size+1) 0 (r0,[⟨-1,0,r1⟩])=T at *;generalize outG nx gl ls (size+1) 0 (r0,[⟨-1,0,r1⟩])=w at *;obtain⟨w0,w1,w2⟩:=w;simp only at loop_a|-
  cases w0 with
  |true=>
   simp only[if_true]at loop_a|-;obtain _|n:=n;omega
   simp-implicitDefEqProofs (maxSteps:=9^7) (disch:=try exact Dz) only[↓DN,↓kAsg,↓kRet,UP,simprocAttr,↓RE,↓kc_v,↓loop_a,BS,vT,Tryz.f105]<;>rfl
  |false=>
   simp only[Ak,if_false]at loop_a|-;obtain _|n:=n;omega
   simp-implicitDefEqProofs (maxSteps:=9^7) (disch:=try exact Dz) only[↓DN,↓kAsg,↓kRet,UP,simprocAttr,↓RE,↓kc_v,↓loop_a,BS,vT,Tryz.f105]<;>rfl
end Ev
end Go.Proofs.YtppffbehejpglaaGreat
