/-
  The states that words lead to, in the order of their first words: a plain law on graphs.
-/
import Derived.Test.YthlkcebdfbjdoaaGreatDistG
import Derived.Test.YthlkcebdfbjdoaaGreatNetR
set_option linter.unusedSimpArgs false
set_option linter.unusedVariables false
set_option maxRecDepth 8000
set_option maxHeartbeats 4000000
namespace Go.Proofs.YthlkcebdfbjdoaaGreat
namespace Ev
section
def addU(out:List Int)(x:Int):List Int:=if x∈out then out else out++[x]
def rowU(out r:List Int):List Int:=r.foldl addU out
section
variable(go:Int->Int->Int)(ls:List Int)
def ordB:Nat->Nat->List Int->List Int
 |0,_,out=>out
 |j+1,i,out=>if i<out.length then ordB j (i+1) (rowU out (ls.map (go (out.getD i 0))))else out
structure Bfs(n i:Nat)(done out:List Int)(W:Nat->List Int):Prop where
 pos:0<out.length
 w0:W 0=[]
 o0:out.getD 0 0=0
 nod:out.Nodup
 rng:∀x∈out,0<=x/\x<n
 run:∀k,k<out.length->(W k).foldl go 0=out.getD k 0
 lts:∀k,k<out.length->∀l∈W k,l∈ls
 asc:∀j k,j<k->k<out.length->slt (W j) (W k)
 pre:∀k,0<k->k<out.length->∃p l,p<k/\l∈ls/\W k=W p++[l]/\(p<i\/p=i/\l∈done)
 clo:∀p l,p<out.length->l∈ls->(p<i\/p=i/\l∈done)->∃q,q<out.length/\out.getD q 0=go (out.getD p 0) l/\¬slt (W p++[l]) (W q)
variable{go ls}{n:Nat}
theorem aMw{x y:List Int}(h:slt x y):¬slt y x:=fun k=>aEc x (JJ h k)
theorem Bfs.front{i:Nat}{done out rest:List Int}{W:Nat->List Int}{l:Int}(h:Bfs go ls n i done out W)(ha:Asc ls)(hd:ls=done++l::rest)(hi:i<out.length):∀k,k<out.length->slt (W k) (W i++[l]):=by
 intro k hk
 rcases Cs k with rfl|hk0
 ·rw[h.w0];exact .inl (by simp)
 ·obtain⟨p,m,hp,hm,e,hpi⟩:=h.pre k hk0 hk;rw[e,OJ]
  rcases hpi with hpi|⟨rfl,hmd⟩
  ·exact .inl (h.asc p i hpi hi)
  ·refine .inr ⟨rfl,?_⟩;rw[hd]at ha;exact(List.pairwise_append.1 ha).2.2 m hmd l Bi
theorem aQz(out:List Int)(x:Int):out.length<=(addU out x).length:=by
 unfold addU;split<;>simp
theorem aQC{out:List Int}{x:Int}{i:Nat}(hi:i<out.length):(addU out x).getD i 0=out.getD i 0:=by
 unfold addU
 split
 ·rfl
 ·exact lM hi
theorem Bfs.step{i:Nat}{done out rest:List Int}{W:Nat->List Int}{l v:Int}(h:Bfs go ls n i done out W)(ha:Asc ls)(hd:ls=done++l::rest)(hi:i<out.length)(hv:out.getD i 0=v)(hx:0<=go v l/\go v l<n):
  ∃W',Bfs go ls n i (done++[l]) (addU out (go v l)) W':=by
 have hf:=h.front ha hd hi;have hl:l∈ls:=by rw[hd];simp
 have hmem:∀ {m:Int},m∈done++[l]↔m∈done\/m=l:=by intro m;simp
 unfold addU
 by_cases hin:go v l∈out
 ·rw[if_pos hin];refine⟨W,h.pos,h.w0,h.o0,h.nod,h.rng,h.run,h.lts,h.asc,?_,?_⟩
  ·intro k h0 hk;obtain⟨p,m,a,b,c,d⟩:=h.pre k h0 hk;refine⟨p,m,a,b,c,?_⟩
   rcases d with d|⟨d,e⟩
   ·exact .inl d
   ·exact .inr ⟨d,hmem.2 (.inl e)⟩
  ·intro p m hp hm hpi
   rcases hpi with hpi|⟨rfl,hpi⟩
   ·exact h.clo p m hp hm (.inl hpi)
   ·rcases hmem.1 hpi with hpi|rfl
    ·exact h.clo p m hp hm (.inr ⟨rfl,hpi⟩)
    ·obtain⟨q,hq,e⟩:=Cl hin;refine⟨q,hq,?_,aMw (hf q hq)⟩;rw[hv,Aa,Ae hq,e];rfl
 ·rw[if_neg hin];have hlen:(out++[go v l]).length=out.length+1:=by simp
  have hnew:(out++[go v l]).getD out.length 0=go v l:=by rw[Aa];simp
  have hne:∀ {k},k<out.length->¬k=out.length:=by omega
  refine⟨fun k=>if k=out.length then W i++[l]else W k,by simp,?_,?_,?_,?_,?_,?_,?_,?_,?_⟩
  ·have:=h.pos;rw[if_neg (by omega)];exact h.w0
  ·rw[lM h.pos];exact h.o0
  ·rw[Dt];refine⟨h.nod,by simp,?_⟩;intro a ha' b hb e;simp at hb;subst hb;subst e;exact hin ha'
  ·intro x hx'
   rcases Al.1 hx' with hx'|hx'
   ·exact h.rng x hx'
   ·simp at hx';subst hx';exact hx
  ·intro k hk;rw[hlen]at hk
   by_cases hk2:k=out.length
   ·subst hk2;rw[if_pos rfl,hnew,List.foldl_append,h.run i hi,hv];rfl
   ·rw[if_neg hk2,lM (by omega)];exact h.run k (by omega)
  ·intro k hk m hm;rw[hlen]at hk
   by_cases hk2:k=out.length
   ·rw[if_pos hk2]at hm
    rcases Al.1 hm with hm|hm
    ·exact h.lts i hi m hm
    ·simp at hm;subst hm;exact hl
   ·rw[if_neg hk2]at hm;exact h.lts k (by omega) m hm
  ·intro j k hjk hk;rw[hlen]at hk;rw[if_neg (by omega:¬j=out.length)]
   by_cases hk2:k=out.length
   ·rw[if_pos hk2];exact hf j (by omega)
   ·rw[if_neg hk2];exact h.asc j k hjk (by omega)
  ·intro k h0 hk;rw[hlen]at hk
   by_cases hk2:k=out.length
   ·refine⟨i,l,by omega,hl,?_,.inr ⟨rfl,hmem.2 (.inr rfl)⟩⟩;rw[if_pos hk2,if_neg (hne hi)]
   ·obtain⟨p,m,a,b,c,d⟩:=h.pre k h0 (by omega);refine⟨p,m,a,b,?_,?_⟩
    ·rw[if_neg hk2,if_neg (by omega:¬p=out.length)];exact c
    ·rcases d with d|⟨d,e⟩
     ·exact .inl d
     ·exact .inr ⟨d,hmem.2 (.inl e)⟩
  ·intro p m hp hm hpi;rw[hlen]at hp
   have old:∀p m,p<out.length->m∈ls->(p<i\/p=i/\m∈done)->∃q,q<(out++[go v l]).length/\(out++[go v l]).getD q 0=go ((out++[go v l]).getD p 0) m/\¬slt ((if p=out.length then W i++[l]else W p)++[m]) (if q=out.length then W i++[l]else W q):=by
    intro p m hp hm hpi;obtain⟨q,hq,e,hs⟩:=h.clo p m hp hm hpi;refine⟨q,by omega,?_,?_⟩
    ·rw[lM hq,lM hp];exact e
    ·rw[if_neg (hne hp),if_neg (hne hq)];exact hs
   rcases hpi with hpi|⟨rfl,hpi⟩
   ·exact old p m (by omega) hm (.inl hpi)
   ·rcases hmem.1 hpi with hpi|rfl
    ·exact old p m hi hm (.inr ⟨rfl,hpi⟩)
    ·refine⟨out.length,by omega,?_,?_⟩
     ·rw[hnew,lM hi,hv]
     ·rw[if_neg (hne hi),if_pos rfl];exact aEc _
theorem Bfs.row{i:Nat}{v:Int}(ha:Asc ls)(hv:∀l∈ls,0<=go v l/\go v l<n):∀(rest done out:List Int) (W:Nat->List Int),Bfs go ls n i done out W->ls=done++rest->i<out.length->out.getD i 0=v->∃W',Bfs go ls n i ls (rowU out (rest.map (go v))) W'/\out.length<=(rowU out (rest.map (go v))).length
 | [],done,out,W,h,hd,hi,ho=>by
  rw[Ah]at hd;subst hd;exact⟨W,h,Ab _⟩
 |l::rest,done,out,W,h,hd,hi,ho=>by
  obtain⟨W1,h1⟩:=h.step ha hd hi ho (hv l (by rw[hd];simp));have hl:=aQz out (go v l);obtain⟨W2,h2,h3⟩:=Bfs.row ha hv rest (done++[l]) _ W1 h1 (by rw[hd];simp) (De hi hl) (by rw[aQC hi];exact ho);exact⟨W2,h2,Bv hl h3⟩
theorem Bfs.next{i:Nat}{out:List Int}{W:Nat->List Int}(h:Bfs go ls n i ls out W):Bfs go ls n (i+1) [] out W:=by
 refine⟨h.pos,h.w0,h.o0,h.nod,h.rng,h.run,h.lts,h.asc,?_,?_⟩
 ·intro k h0 hk;obtain⟨p,m,a,b,c,d⟩:=h.pre k h0 hk;exact⟨p,m,a,b,c,.inl (by omega)⟩
 ·intro p l hp hl hpi;refine h.clo p l hp hl ?_
  rcases hpi with hpi|⟨_,hpi⟩
  ·by_cases e:p=i
   ·exact .inr ⟨e,hl⟩
   ·exact .inl (by omega)
  ·simp at hpi
theorem aKr(ha:Asc ls)(hgo:∀v l:Int,0<=v->v<n->l∈ls->0<=go v l/\go v l<n):∀(j i:Nat) (out:List Int) (W:Nat->List Int),Bfs go ls n i [] out W->i<=out.length->n<i+j->∃W',Bfs go ls n (ordB go ls j i out).length [] (ordB go ls j i out) W'
 |0,i,out,W,h,hi,hj=>by
  have:=jD h.nod h.rng;omega
 |j+1,i,out,W,h,hi,hj=>by
  unfold ordB
  by_cases hlt:i<out.length
  ·rw[if_pos hlt]
   have hm:out.getD i 0∈out:=by
    rw[Aa,Ae hlt];exact Az hlt
   obtain⟨r0,r1⟩:=h.rng _ hm;obtain⟨W1,h1,h2⟩:=Bfs.row ha (fun l hl=>hgo _ l r0 r1 hl) ls [] out W h rfl hlt rfl;exact aKr ha hgo j (i+1) _ W1 h1.next (by omega) (by omega)
  ·rw[if_neg hlt];obtain rfl:i=out.length:=by omega
   exact⟨W,h⟩
theorem Bfs.start(hn:0<n):Bfs go ls n 0 [] [0] (fun _=>[]):=by
 refine⟨by simp,rfl,rfl,by simp,?_,?_,?_,?_,?_,?_⟩
 ·intro x hx;simp at hx;subst hx;omega
 ·intro k hk;simp at hk;subst hk;rfl
 ·intro k hk l hl;cases hl
 ·intro j k h1 h2;simp at h2;omega
 ·intro k h1 h2;simp at h2;omega
 ·intro p l hp hl h
  rcases h with h|⟨_,h⟩
  ·omega
  ·simp at h
theorem Bfs.least{out:List Int}{W:Nat->List Int}(h:Bfs go ls n out.length [] out W):∀(c:Nat) (w:List Int),w.length=c->(∀l∈w,l∈ls)->∃q,q<out.length/\out.getD q 0=w.foldl go 0/\¬slt w (W q):=by
 intro c
 induction c with
 |zero=>
  intro w hw _;have:w=[]:=By.1 hw;subst this;exact⟨0,h.pos,h.o0,by rw[h.w0];exact aEc _⟩
 |succ c ih=>
  intro w hw hl
  rcases OL w with rfl|⟨u,l,rfl⟩
  ·simp at hw
  ·obtain⟨p,hp,e,hs⟩:=ih u (by simpa using hw) fun m hm=>hl m (by simp[hm]);obtain⟨q,hq,e2,hs2⟩:=h.clo p l hp (hl l (by simp)) (.inl hp);refine⟨q,hq,by rw[e2,e,List.foldl_append];rfl,fun k=> ?_⟩
   rcases aKi u (W p)with g|g|g
   ·rw[g]at k;exact hs2 k
   ·exact hs g
   ·exact hs2 (JJ (OJ.2 (.inl g)) k)
theorem Bfs.idx{i:Nat}{done out:List Int}{W:Nat->List Int}(h:Bfs go ls n i done out W){p q:Nat}(hp:p<out.length)(hq:q<out.length)(e:out.getD p 0=out.getD q 0):p=q:=by
 rw[Aa,Ae hp,Aa,Ae hq]at e;exact(List.getElem_inj h.nod).1 e
end
end
theorem G9{p:Nat->Bool}{n:Nat}(h:(seek p n 0).isNone=true){i:Nat}(hi:i<n):p i=false:=
 sF.1 (by simpa using h) i (by omega) (by omega)
theorem x5{al:Int}{rs:List (List Int)}{ac:List Bool}(h:dP al rs ac=true):vP (aB al).length rs:=by
 unfold dP at h;simp only[Ar]at h;intro r hr;obtain⟨i,hi,rfl⟩:=Cl hr;have hb:=G9 h.2 hi;unfold gK at hb;rw[Aa,Ae hi]at hb;apply Ef;intro hc;rw[aHE (by simp only[Bb];omega)]at hb;cases hb
theorem kX{al:Int}{rs:List (List Int)}{ac:List Bool}(h:dP al rs ac=true):1<=rs.length/\rs.length<=12/\ac.length=rs.length/\kD al=true:=by
 unfold dP at h;simp only[Ar,decide_eq_true_eq]at h;obtain⟨⟨⟨⟨h1,h2⟩,h3⟩,h4⟩,_⟩:=h;exact⟨by omega,by omega,by omega,h1⟩
end Ev
end Go.Proofs.YthlkcebdfbjdoaaGreat
