/-
  Automata that are drawn and changed some times.
-/
import Derived.Test.YtahbdkmimmnadaaGreatDoorChangeB
import Derived.Test.YtahbdkmimmnadaaGreatDoorPathV
import Derived.Test.YtahbdkmimmnadaaGreatDoorPartsA
import Derived.Test.YtahbdkmimmnadaaGreatDoorFirstP
import Derived.Test.YtahbdkmimmnadaaGreatDoorSysI
import Derived.Test.YtahbdkmimmnadaaGreatDoorEvPrim
import Derived.Test.YtahbdkmimmnadaaGreatDoorOpq
import Derived.Tactics
import Derived.Test.YtahbdkmimmnadaaGreatDoorShRn
import Derived.Test.YtahbdkmimmnadaaGreatDoorDrawP0
import Derived.Test.YtahbdkmimmnadaaGreatDoorDrawT
set_option linter.unusedSimpArgs false
set_option linter.unusedVariables false
set_option linter.unusedSectionVars false
set_option maxRecDepth 1000000
set_option maxHeartbeats 4000000
namespace Go.Proofs.YtahbdkmimmnadaaGreatDoor
namespace Ev
theorem aHQ{c:List UInt8}(hc:c.length<=2000){B:Nat}(hB:B<=4294966000)(al:Int)(nx:List (List Int))(ac:List Bool)(hb:AutB B nx ac)(h1:1<=nx.length)(p:Int)(hp:0<=p)(hp2:p<=890000000):
  ∃(nx2:List (List Int)) (ac2:List Bool) (q:Int),AutB (B+1) nx2 ac2/\1<=nx2.length/\p<=q/\q<=p+4/\(Dw 4 141 [autD al nx ac] (autD al nx2 ac2) c p q):=by
 have hs:=hb.short om;have hn:=hb.n;have hba:=hb.a;obtain⟨k,k0,k1,_,kd1⟩:=bN hc p nx.length hp om;obtain⟨u,u0,u1,_,kd2⟩:=bN hc (p+1) 4 om om;have k1:=k1 om;obtain⟨t,rfl⟩:∃t:Nat,k=t:=⟨k.toNat,by omega⟩
 have ht:t<nx.length:=om;have hrt:=hb.at t;have same:=fun hcase=>aEj hc al nx ac hs h1 om p u t ht hcase kd1 kd2
 by_cases hu0:u=0
 ·by_cases hta:t<ac.length
  ·subst hu0;refine⟨nx,_,_,⟨by omega,by rw[Be];omega,fun r hr=> ?_⟩,h1,by omega,by omega,aHD hc al nx ac hs h1 om p t hta kd1 kd2⟩;have:=hb.r r hr;omega
  ·exact⟨nx,ac,_,hb.mono om,h1,by omega,by omega,same (.inl ⟨hu0,by omega⟩)⟩
 by_cases hu1:u=1
 ·by_cases h0:(nx.getD t []).length=0
  ·exact⟨nx,ac,_,hb.mono om,h1,by omega,by omega,same (.inr (.inl ⟨hu1,h0⟩))⟩
  ·subst hu1;obtain⟨v,v0,v1,_,kd4⟩:=bN hc (p+1+1) (nx.getD t []).length om om;have v1:=v1 om;obtain⟨j,rfl⟩:∃j:Nat,v=j:=⟨v.toNat,by omega⟩
   obtain⟨w,w0,w1,_,kd5⟩:=bN hc (p+1+1+1) nx.length om om;refine⟨_,ac,_,⟨by rw[Be];omega,by omega,fun r hr=> ?_⟩,by rw[Be];exact h1,by omega,by omega,aFa hc al nx ac hs h1 om p w t j ht om kd1 kd2 kd4 kd5⟩
   rcases Dd hr with h|h
   ·have:=hb.r r h;omega
   ·rw[h,Be];omega
 by_cases hu2:u=2
 ·by_cases h3:nx.length<12/\t<ac.length/\0<(nx.getD t []).length
  ·subst hu2;refine⟨_,_,_,⟨?_,?_,fun r hr=> ?_⟩,?_,by omega,by omega,aG7 hc al nx ac hs om p t ht h3.1 h3.2.1 rfl h3.2.2 om rfl kd1 kd2⟩
   ·rw[Ah,Be,Ac,Aa];omega
   ·rw[Ah,Ac,Aa];omega
   ·rcases Aq.1 hr with h|h
    ·rcases Dd h with h|h
     ·have:=hb.r r h;omega
     ·rw[h,Be];omega
    ·simp only[Cc]at h;rw[h];omega
   ·rw[Ah,Be,Ac,Aa];omega
  ·exact⟨nx,ac,_,hb.mono om,h1,by omega,by omega,same (.inr (.inr (.inl ⟨hu2,by omega⟩)))⟩
 exact⟨nx,ac,_,hb.mono om,h1,by omega,by omega,same (.inr (.inr (.inr ⟨hu0,hu1,hu2⟩)))⟩

section
def addU(out:List Int)(x:Int):List Int:=if x∈out then out else out++[x]
def rowU(out r:List Int):List Int:=r.foldl addU out
section
variable(go:Int->Int->Int)(ls:List Int)
structure Bfs(n i:Nat)(done out:List Int)(W:Nat->List Int):Prop where
 pos:0<out.length
 w0:W 0=[]
 o0:out.getD 0 0=0
 nod:out.Nodup
 rng:∀x∈out,0<=x/\x<n
 run:∀k,k<out.length->(W k).foldl go 0=out.getD k 0
 lts:∀k,k<out.length->∀l∈W k,l∈ls
 asc:∀j k,j<k->k<out.length->slt (W j) (W k)
 pre:∀k,0<k->k<out.length->∃p l,p<k/\l∈ls/\W k=W p++[l]/\(p<i\/p=i/\l∈done)
 clo:∀p l,p<out.length->l∈ls->(p<i\/p=i/\l∈done)->∃q,q<out.length/\out.getD q 0=go (out.getD p 0) l/\¬slt (W p++[l]) (W q)
variable{go ls}{n:Nat}
theorem aK0{x y:List Int}(h:slt x y):¬slt y x:=fun k=>aBz x (H3 h k)
theorem Bfs.front{i:Nat}{done out rest:List Int}{W:Nat->List Int}{l:Int}(h:Bfs go ls n i done out W)(ha:Asc ls)(hd:ls=done++l::rest)(hi:i<out.length):∀k,k<out.length->slt (W k) (W i++[l]):=by
 intro k hk
 rcases Dc k with rfl|hk0
 ·rw[h.w0];exact .inl sm
 ·obtain⟨p,m,hp,hm,e,hpi⟩:=h.pre k hk0 hk;rw[e,NR]
  rcases hpi with hpi|⟨rfl,hmd⟩
  ·exact .inl (h.asc p i hpi hi)
  ·refine .inr ⟨rfl,?_⟩;rw[hd]at ha;exact(List.pairwise_append.1 ha).2.2 m hmd l Bl
theorem aMA(out:List Int)(x:Int):out.length<=(addU out x).length:=by
 unfold addU;split<;>simp
theorem aMl{out:List Int}{x:Int}{i:Nat}(hi:i<out.length):(addU out x).getD i 0=out.getD i 0:=by
 unfold addU
 split
 ·rfl
 ·exact hU hi
theorem Bfs.step{i:Nat}{done out rest:List Int}{W:Nat->List Int}{l v:Int}(h:Bfs go ls n i done out W)(ha:Asc ls)(hd:ls=done++l::rest)(hi:i<out.length)(hv:out.getD i 0=v)(hx:0<=go v l/\go v l<n):
  ∃W',Bfs go ls n i (done++[l]) (addU out (go v l)) W':=by
 have hf:=h.front ha hd hi;have hl:l∈ls:=by rw[hd];simp
 have hmem:∀ {m:Int},m∈done++[l]↔m∈done\/m=l:=by intro m;simp
 unfold addU
 by_cases hin:go v l∈out
 ·rw[if_pos hin];refine⟨W,h.pos,h.w0,h.o0,h.nod,h.rng,h.run,h.lts,h.asc,?_,?_⟩
  ·intro k h0 hk;obtain⟨p,m,a,b,c,d⟩:=h.pre k h0 hk;refine⟨p,m,a,b,c,?_⟩
   rcases d with d|⟨d,e⟩
   ·exact .inl d
   ·exact .inr ⟨d,hmem.2 (.inl e)⟩
  ·intro p m hp hm hpi
   rcases hpi with hpi|⟨rfl,hpi⟩
   ·exact h.clo p m hp hm (.inl hpi)
   ·rcases hmem.1 hpi with hpi|rfl
    ·exact h.clo p m hp hm (.inr ⟨rfl,hpi⟩)
    ·obtain⟨q,hq,e⟩:=Dj hin;refine⟨q,hq,?_,aK0 (hf q hq)⟩;rw[hv,Ab,Ae hq,e];rfl
 ·rw[if_neg hin];have hlen:(out++[go v l]).length=out.length+1:=sm;have hnew:(out++[go v l]).getD out.length 0=go v l:=by rw[Ab];simp
  have hne:∀ {k},k<out.length->¬k=out.length:=om;refine⟨fun k=>if k=out.length then W i++[l]else W k,by simp,?_,?_,?_,?_,?_,?_,?_,?_,?_⟩
  ·have:=h.pos;rw[if_neg om];exact h.w0
  ·rw[hU h.pos];exact h.o0
  ·rw[List.nodup_append];refine⟨h.nod,by simp,?_⟩;intro a ha' b hb e;simp at hb;subst hb;subst e;exact hin ha'
  ·intro x hx'
   rcases Aq.1 hx' with hx'|hx'
   ·exact h.rng x hx'
   ·simp at hx';subst hx';exact hx
  ·intro k hk;rw[hlen]at hk
   by_cases hk2:k=out.length
   ·subst hk2;rw[if_pos rfl,hnew,List.foldl_append,h.run i hi,hv];rfl
   ·rw[if_neg hk2,hU om];exact h.run k om
  ·intro k hk m hm;rw[hlen]at hk
   by_cases hk2:k=out.length
   ·rw[if_pos hk2]at hm
    rcases Aq.1 hm with hm|hm
    ·exact h.lts i hi m hm
    ·simp at hm;subst hm;exact hl
   ·rw[if_neg hk2]at hm;exact h.lts k om m hm
  ·intro j k hjk hk;rw[hlen]at hk;rw[if_neg (by omega:¬j=out.length)]
   by_cases hk2:k=out.length
   ·rw[if_pos hk2];exact hf j om
   ·rw[if_neg hk2];exact h.asc j k hjk om
  ·intro k h0 hk;rw[hlen]at hk
   by_cases hk2:k=out.length
   ·refine⟨i,l,by omega,hl,?_,.inr ⟨rfl,hmem.2 (.inr rfl)⟩⟩;rw[if_pos hk2,if_neg (hne hi)]
   ·obtain⟨p,m,a,b,c,d⟩:=h.pre k h0 om;refine⟨p,m,a,b,?_,?_⟩
    ·rw[if_neg hk2,if_neg (by omega:¬p=out.length)];exact c
    ·rcases d with d|⟨d,e⟩
     ·exact .inl d
     ·exact .inr ⟨d,hmem.2 (.inl e)⟩
  ·intro p m hp hm hpi;rw[hlen]at hp
   have old:∀p m,p<out.length->m∈ls->(p<i\/p=i/\m∈done)->∃q,q<(out++[go v l]).length/\(out++[go v l]).getD q 0=go ((out++[go v l]).getD p 0) m/\¬slt ((if p=out.length then W i++[l]else W p)++[m]) (if q=out.length then W i++[l]else W q):=by
    intro p m hp hm hpi;obtain⟨q,hq,e,hs⟩:=h.clo p m hp hm hpi;refine⟨q,by omega,?_,?_⟩
    ·rw[hU hq,hU hp];exact e
    ·rw[if_neg (hne hp),if_neg (hne hq)];exact hs
   rcases hpi with hpi|⟨rfl,hpi⟩
   ·exact old p m om hm (.inl hpi)
   ·rcases hmem.1 hpi with hpi|rfl
    ·exact old p m hi hm (.inr ⟨rfl,hpi⟩)
    ·refine⟨out.length,by omega,?_,?_⟩
     ·rw[hnew,hU hi,hv]
     ·rw[if_neg (hne hi),if_pos rfl];exact aBz _
theorem Bfs.row{i:Nat}{v:Int}(ha:Asc ls)(hv:∀l∈ls,0<=go v l/\go v l<n):∀(rest done out:List Int) (W:Nat->List Int),Bfs go ls n i done out W->ls=done++rest->i<out.length->out.getD i 0=v->∃W',Bfs go ls n i ls (rowU out (rest.map (go v))) W'/\out.length<=(rowU out (rest.map (go v))).length
 | [],done,out,W,h,hd,hi,ho=>by
  rw[Ai]at hd;subst hd;exact⟨W,h,Ad _⟩
 |l::rest,done,out,W,h,hd,hi,ho=>by
  obtain⟨W1,h1⟩:=h.step ha hd hi ho (hv l (by rw[hd];simp));have hl:=aMA out (go v l);obtain⟨W2,h2,h3⟩:=Bfs.row ha hv rest (done++[l]) _ W1 h1 (by rw[hd];simp) (Da hi hl) (by rw[aMl hi];exact ho);exact⟨W2,h2,Bf hl h3⟩
theorem Bfs.next{i:Nat}{out:List Int}{W:Nat->List Int}(h:Bfs go ls n i ls out W):Bfs go ls n (i+1) [] out W:=by
 refine⟨h.pos,h.w0,h.o0,h.nod,h.rng,h.run,h.lts,h.asc,?_,?_⟩
 ·intro k h0 hk;obtain⟨p,m,a,b,c,d⟩:=h.pre k h0 hk;exact⟨p,m,a,b,c,.inl om⟩
 ·intro p l hp hl hpi;refine h.clo p l hp hl ?_
  rcases hpi with hpi|⟨_,hpi⟩
  ·by_cases e:p=i
   ·exact .inr ⟨e,hl⟩
   ·exact .inl om
  ·simp at hpi
theorem Bfs.start(hn:0<n):Bfs go ls n 0 [] [0] (fun _=>[]):=by
 refine⟨by simp,rfl,rfl,by simp,?_,?_,?_,?_,?_,?_⟩
 ·intro x hx;simp at hx;subst hx;omega
 ·intro k hk;simp at hk;subst hk;rfl
 ·intro k hk l hl;cases hl
 ·intro j k h1 h2;simp at h2;omega
 ·intro k h1 h2;simp at h2;omega
 ·intro p l hp hl h
  rcases h with h|⟨_,h⟩
  ·omega
  ·simp at h
theorem Bfs.least{out:List Int}{W:Nat->List Int}(h:Bfs go ls n out.length [] out W):∀(c:Nat) (w:List Int),w.length=c->(∀l∈w,l∈ls)->∃q,q<out.length/\out.getD q 0=w.foldl go 0/\¬slt w (W q):=by
 intro c
 induction c with
 |zero=>
  intro w hw _;have:w=[]:=Bw.1 hw;subst this;exact⟨0,h.pos,h.o0,by rw[h.w0];exact aBz _⟩
 |succ c ih=>
  intro w hw hl
  rcases MK w with rfl|⟨u,l,rfl⟩
  ·simp at hw
  ·obtain⟨p,hp,e,hs⟩:=ih u (by simpa using hw) fun m hm=>hl m (by simp[hm]);obtain⟨q,hq,e2,hs2⟩:=h.clo p l hp (hl l sm) (.inl hp);refine⟨q,hq,by rw[e2,e,List.foldl_append];rfl,fun k=> ?_⟩
   rcases aIS u (W p)with g|g|g
   ·rw[g]at k;exact hs2 k
   ·exact hs g
   ·exact hs2 (H3 (NR.2 (.inl g)) k)
theorem Bfs.idx{i:Nat}{done out:List Int}{W:Nat->List Int}(h:Bfs go ls n i done out W){p q:Nat}(hp:p<out.length)(hq:q<out.length)(e:out.getD p 0=out.getD q 0):p=q:=by
 rw[Ab,Ae hp,Ab,Ae hq]at e;exact(List.getElem_inj h.nod).1 e
end
end



section
def goS(a:Aut)(v l:Int):Int:=goI a.al a.nx v l
section
variable{a:Aut}{W:Nat->List Int}
end
section
variable{a:Aut}{W:Nat->List Int}
end
end
section
section
variable{α β:Type}[DecidableEq α][DecidableEq β]
abbrev idxG(o:List α)(x:α):Nat:=o.idxOf x
end
end

def acQ(a:Aut)(q:Int):Bool:=a.ac.getD q.toNat false
def Eqv(a:Aut)(i j:Int):Prop:=∀w:List Int,(∀l∈w,l∈aG a.al)->acQ a (w.foldl (goS a) i)=acQ a (w.foldl (goS a) j)
structure Cls(a:Aut)(cl:List Int):Prop where
 len:cl.length=a.nx.length
 rng:∀q,q<a.nx.length->0<=cl.getD q 0/\cl.getD q 0<12
 coarse:∀i j:Nat,i<a.nx.length->j<a.nx.length->Eqv a i j->cl.getD i 0=cl.getD j 0
 fine:∀i j:Nat,i<a.nx.length->j<a.nx.length->cl.getD i 0=cl.getD j 0->acQ a i=acQ a j





theorem vE{R:Type}{L n:Nat}{hq:H}{al:Int}{ac:List Bool}{k:KA R}(hn:2<=n)(ha:ac.length<=4294967295)(hL:2^60<=L):aU env (aA env L n) hq 198 [.agg [nI al,.d (.ivs 0 []),.d (.ivs ac.length (aK ac))]] k=k (.agg [nI al,.sl hq.length 0 0 0,.sl (hq.length+1) 0 0 ac.length]) (hq++[.arr [] 0 0,.arr (aK ac) 1 0]):=by
 have he:aA env L n 198 [.agg [nI al,.d (.ivs 0 []),.d (.ivs ac.length (aK ac))]] []=some (.agg [nI al,.sl 0 0 0 0,.sl 1 0 0 ac.length],[.arr [] 0 0,.arr (aK ac) 1 0]):=Y6 hn al ac ha hL
 have hcall:bJ (aA env L n) env.hint [] 198 [.agg [nI al,.d (.ivs 0 []),.d (.ivs ac.length (aK ac))]]=some (.agg [nI al,.sl 0 0 0 0,.sl 1 0 0 ac.length],[.arr [] 0 0,.arr (aK ac) 1 0]):=by
  have hf:fA [] [.agg [nI al,.d (.ivs 0 []),.d (.ivs ac.length (aK ac))]]=some ([.agg [nI al,.d (.ivs 0 []),.d (.ivs ac.length (aK ac))]],[]):=rfl;unfold bJ;rw[uB];simp only[hf,he]<;>rfl
 have hids:idsL [A.agg [nI al,.d (.ivs 0 []),.d (.ivs ac.length (aK ac))]]=[]:=rfl;unfold aU;rw[hids,EC,gG _ hids];have hp:pack hq []=[]:=rfl;rw[hp,hcall];simp only[Aa,Ck,true_and,closed,Ce,Bm,if_true,bA];simp[mapA,aE,back,mapO,aK]
theorem aHO{R:Type}{L n m:Nat}{y1 y2:D}{al:Int}{ac:List Bool}{k:KE R}:aV env (aA env L n) L 1 (W32 (W32 (W16 (W2 (W1 [1002,0,0,0,0,0,0,0,0,0,0,0,0,0,0,0,0,0,0,0,0,0,1002]))))) Bz22 (xY 0) Bz41 (m+1) (Y4 (.ptr 1 0 0::.ptr 2 0 0::nI 0::Y32 (Y32 (Y32 (Y8 (Y2 (Y1 ([])))))))) [.box [.d y1,.d y2],.box [nI 0,.sl 3 0 0 0,.sl 4 0 0 0],.box [nI al,.sl 5 0 0 0,.sl 6 0 0 ac.length],.arr [] 0 0,.arr [] 0 0,.arr [] 0 0,.arr (aK ac) 1 0] k
  =k (.exit 1) (Y4 (.ptr 1 0 0::.ptr 2 0 0::nI 0::Y32 (Y32 (Y32 (Y8 (Y2 (Y1 ([])))))))) [.box [.d y1,.d y2],.box [nI 0,.sl 3 0 0 0,.sl 4 0 0 0],.box [nI al,.sl 5 0 0 0,.sl 6 0 0 ac.length],.arr [] 0 0,.arr [] 0 0,.arr [] 0 0,.arr (aK ac) 1 0]:=by
 simp-implicitDefEqProofs (maxSteps:=9^7) (disch:=try exact Dz) only[↓DN,↓kRet,UP,simprocAttr,Al,vC,uJ,Tryz.f134]
theorem aLL{c:List UInt8}(hc:c.length<=2000)(al:Int)(ac:List Bool)(ha:ac.length<=4294960000)(p:Int)(hp:0<=p)(hp2:p<=890000000):∃(al2:Int) (ac2:List Bool) (q:Int),ac2.length<=ac.length+1/\p<=q/\q<=p+4/\(Dw 4 134 [autD al [] ac] (autD al2 [] ac2) c p q):=by
 obtain⟨k,k0,_,k1,kd1⟩:=bN hc p 0 hp om;obtain rfl:k=0:=k1 om;obtain⟨u,u0,u1,_,kd2⟩:=bN hc (p+1) 30 om om;have e0:aN []=[]:=rfl;have loop_a:=fun {R:Type} {n:Nat} {y1 y2:D} {al:Int} {k:KE R} {L:Nat} (hL:2^60<=L)=>(show L-1+1=L by omega)▸aHO (R:=R) (L:=L) (n:=n) (m:=L-1) (y1:=y1) (y2:=y2) (al:=al) (ac:=ac) (k:=k)
 by_cases h0:u=0
 ·subst h0;obtain⟨al2,_,kd4⟩:=gQ hc [64,-1,1,63,0] sm sm (p+1+1) om om;simp only[ints,Ag,Ak,Ac,Aa,Af,Nat.reduceAdd]at kd4;refine⟨al2,ac,p+1+1+1,by simp,by omega,by omega,fun R L n hq k hn hL=>aS iM (by simp[autD,idsA,idsL]) (by simp[autD,idsA,idsL]) ?_⟩;simp only[autD,e0,Aa];obtain _|n:=n;omega
  simp-implicitDefEqProofs (maxSteps:=9^7) (disch:=try exact Dz) only[↓DN,↓kRet,UP,simprocAttr,LA,↓kd1,↓kd2,↓vE,↓kd4,dC,dG,Tryz.f134]
 by_cases h1:u=1
 ·subst h1;refine⟨al,ac++[true],p+1+1,by simp,by omega,by omega,fun R L n hq k hn hL=>aS iM (by simp[autD,idsA,idsL]) (by simp[autD,idsA,idsL]) ?_⟩;have htk:(aK ac++[D.bool true]).take (ac.length+1)=aK (ac++[true]):=by rw[tS];exact wL sm
  simp only[autD,e0,Aa];obtain _|n:=n;omega
  simp-implicitDefEqProofs (maxSteps:=9^7) (disch:=try exact Dz) only[↓DN,↓kRet,UP,simprocAttr,LA,↓kd1,↓kd2,↓vE,htk,dC,dG,Tryz.f134]
 by_cases h4:u=4
 ·subst h4;have e1:aK []=[]:=rfl;refine⟨al,[],p+1+1,by simp,by omega,by omega,fun R L n hq k hn hL=>aS iM (by simp[autD,idsA,idsL]) (by simp[autD,idsA,idsL]) ?_⟩;simp only[autD,e0,Aa];obtain _|n:=n;omega
  simp-implicitDefEqProofs (maxSteps:=9^7) (disch:=try exact Dz) only[↓DN,↓kRet,UP,simprocAttr,↓kd1,↓kd2,↓vE,e1,dC,dG,Tryz.f134]
 refine⟨al,ac,p+1+1,by simp,by omega,by omega,fun R L n hq k hn hL=>aS iM (by simp[autD,idsA,idsL]) (by simp[autD,idsA,idsL]) ?_⟩;simp only[autD,e0,Aa];have loop_b:=fun {R:Type} {n:Nat} {y1 y2:D} {al:Int} {k:KE R}=>loop_a (R:=R) (n:=n) (y1:=y1) (y2:=y2) (al:=al) (k:=k) hL
 by_cases h2:u=2
 ·subst h2;obtain _|n:=n;omega
  simp-implicitDefEqProofs (maxSteps:=9^7) (disch:=try exact Dz) only[↓DN,↓kRet,UP,simprocAttr,LA,↓kd1,↓kd2,↓vE,Al,dC,dG,Tryz.f134]
 by_cases h3:u=3
 ·subst h3;obtain _|n:=n;omega
  simp-implicitDefEqProofs (maxSteps:=9^7) (disch:=try exact Dz) only[↓DN,↓kRet,UP,simprocAttr,LA,↓kd1,↓kd2,↓vE,Al,dC,dG,Tryz.f134]
 by_cases h5:u=5
 ·subst h5;obtain _|n:=n;omega
  simp-implicitDefEqProofs (maxSteps:=9^7) (disch:=try exact Dz) only[↓DN,↓kRet,UP,simprocAttr,LA,↓kd1,↓kd2,↓vE,↓loop_b,dC,dG,Tryz.f134]
 obtain _|n:=n;omega
 simp-implicitDefEqProofs (maxSteps:=9^7) (disch:=try exact Dz) only[↓DN,↓kRet,UP,simprocAttr,LA,↓kd1,↓kd2,↓vE,h0,h1,h2,h3,h4,h5,dC,dG,Tryz.f134]
theorem SR{c:List UInt8}(hc:c.length<=2000){B:Nat}(hB:B<=4294960000)(al:Int)(nx:List (List Int))(ac:List Bool)(hb:AutB B nx ac)(p:Int)(hp:0<=p)(hp2:p<=890000000):
  ∃(al2:Int) (nx2:List (List Int)) (ac2:List Bool) (q:Int),AutB (B+13) nx2 ac2/\p<=q/\q<=p+4/\(Dw 4 134 [autD al nx ac] (autD al2 nx2 ac2) c p q):=by
 by_cases h1:1<=nx.length
 ·exact aI3 hc om al nx ac hb h1 p hp hp2
 ·obtain rfl:nx=[]:=Bw.1 om;have ha:=hb.a;obtain⟨al2,ac2,q,a,b,d,e⟩:=aLL hc al ac om p hp hp2;exact⟨al2,[],ac2,q,⟨by simp,by omega,by simp⟩,b,d,e⟩
theorem aHF{R:Type}{call:aW}{hq:H}{f:FuncId}{args:List A}{c:List UInt8}{p q:Int}{cs:List D}{e n:Nat}{k:KA R}(hm:(env.hint f).mode=0)(ha:idsL args=[])(he:call f (.ptr 0 0 0::args) [rdO c p]=some (.sl 1 0 0 n,[rdO c q,.arr cs e 0])):
  aU env call (rdO c p::hq) f (.ptr 0 0 0::args) k=k (.sl (hq.length+1) 0 0 n) (rdO c q::(hq++[.arr cs e 0])):=by
 have hid:idsL (A.ptr 0 0 0::args)=[0]:=by simp[idsL,idsA,ha]
 have hre:aC aD (rdO c p::hq) [0] []=[0]:=rfl;have hpk:pack (rdO c p::hq) [0]=[rdO c p]:=rfl
 have hma:aE (aH [0]) (A.ptr 0 0 0::args)=A.ptr 0 0 0::args:=by
  simp only[aE,gG _ ha];rfl
 have hc:bJ call env.hint [rdO c p] f (.ptr 0 0 0::args)=some (.sl 1 0 0 n,[rdO c q,.arr cs e 0]):=by
  unfold bJ;rw[hm];exact he
 have hcl:closed (rdO c p::hq) [0] [0]=true:=rfl;unfold aU;rw[hid,hre,hpk,hma,hc];have hb:back [0] (rdO c p::hq).length 2 1=some (hq.length+1):=by simp[back]
 have hb2:mapA (back [0] (rdO c p::hq).length 2) (.sl 1 0 0 n)=.sl (hq.length+1) 0 0 n:=by simp only[mapA,hb]
 simp only[Ac,Aa,Af,Nat.reduceAdd,hcl,and_self,if_true,show 1<=2 by omega]at hb2|-;rw[hb2]
 congr 1
theorem aCy{R:Type}{call:aW}{hq:H}{f:FuncId}{c:List UInt8}{p q:Int}{r:A}{o:O}{k:KA R}{cs:List D}{e g n id:Nat}(hi:hq[id]? =some (.arr cs e g))(hm:(env.hint f).mode=0)(hr:idsA r=[])(ho:∀f,mapO f o=o)(he:call f [.ptr 0 0 0,.sl 1 g 0 n] [rdO c p,.arr cs e g]=some (r,[rdO c q,o])):
  aU env call (rdO c p::hq) f [.ptr 0 0 0,.sl (id+1) g 0 n] k=k r (rdO c q::hq.set id o):=by
 have hlk:(rdO c p::hq)[id+1]? =some (.arr cs e g):=by rw[As];exact hi
 have hre:aC aD (rdO c p::hq) [0,id+1] []=[0,id+1]:=by
  have e1:aC aD (rdO c p::hq) [0,id+1] []=aC (aD-1) (rdO c p::hq) [id+1] [0]:=rfl
  have e2:aC (aD-1) (rdO c p::hq) [id+1] [0]=if [0].contains (id+1)=true then aC (aD-2) (rdO c p::hq) [] [0]else match(rdO c p::hq)[id+1]? with
   |some (.box cs)=>aC (aD-2) (rdO c p::hq) ([]++idsL cs) ([0]++[id+1])
   |some (.vec cs _ _)=>aC (aD-2) (rdO c p::hq) ([]++idsL cs) ([0]++[id+1])
   |some .void=>aC (aD-2) (rdO c p::hq) [] [0]
   |some _=>aC (aD-2) (rdO c p::hq) [] ([0]++[id+1])
   |none=>aC (aD-2) (rdO c p::hq) [] [0]:=rfl
  have e3:[0].contains (id+1)=false:=sm;rw[e1,e2,e3,hlk];rfl
 have hpk:pack (rdO c p::hq) [0,id+1]=[rdO c p,.arr cs e g]:=by
  simp only[pack,Ag,Ak,Ab,hlk]<;>rfl
 unfold aU;have hid:idsL [A.ptr 0 0 0,A.sl (id+1) g 0 n]=[0,id+1]:=rfl;rw[hid,hre,hpk]
 have hma:aE (aH [0,id+1]) [A.ptr 0 0 0,A.sl (id+1) g 0 n]=[A.ptr 0 0 0,A.sl 1 g 0 n]:=by
  simp[aE,mapA,aH]
 rw[hma]
 have hc:bJ call env.hint [rdO c p,.arr cs e g] f [.ptr 0 0 0,.sl 1 g 0 n]=some (r,[rdO c q,o]):=by
  unfold bJ;rw[hm];exact he
 rw[hc]
 have hcl:closed (rdO c p::hq) [0,id+1] [0,id+1]=true:=by
  simp only[closed,Bt,Ce,hlk,Ch];simp[idsL,idsA]
 simp only[Ac,Aa,Ad,hcl,and_self,if_true,nL r hr]
 congr 1
 simp only[bA,ho,Ak,Ai,Ci,Bk]<;>rfl
theorem aDJ{R:Type}{call:aW}{hq:H}{f:FuncId}{c:List UInt8}{p q:Int}{g2 n2:Nat}{cs2:List D}{k:KA R}{cs:List D}{e g n id:Nat}(hi:hq[id]? =some (.arr cs e g))(hm:(env.hint f).mode=0)(he:call f [.ptr 0 0 0,.sl 1 g 0 n] [rdO c p,.arr cs e g]=some (.sl 1 g2 0 n2,[rdO c q,.arr cs2 e g2])):
  aU env call (rdO c p::hq) f [.ptr 0 0 0,.sl (id+1) g 0 n] k=k (.sl (id+1) g2 0 n2) (rdO c q::hq.set id (.arr cs2 e g2)):=by
 have hlk:(rdO c p::hq)[id+1]? =some (.arr cs e g):=by rw[As];exact hi
 have hre:aC aD (rdO c p::hq) [0,id+1] []=[0,id+1]:=by
  have e1:aC aD (rdO c p::hq) [0,id+1] []=aC (aD-1) (rdO c p::hq) [id+1] [0]:=rfl
  have e2:aC (aD-1) (rdO c p::hq) [id+1] [0]=if [0].contains (id+1)=true then aC (aD-2) (rdO c p::hq) [] [0]else match(rdO c p::hq)[id+1]? with
   |some (.box cs)=>aC (aD-2) (rdO c p::hq) ([]++idsL cs) ([0]++[id+1])
   |some (.vec cs _ _)=>aC (aD-2) (rdO c p::hq) ([]++idsL cs) ([0]++[id+1])
   |some .void=>aC (aD-2) (rdO c p::hq) [] [0]
   |some _=>aC (aD-2) (rdO c p::hq) [] ([0]++[id+1])
   |none=>aC (aD-2) (rdO c p::hq) [] [0]:=rfl
  have e3:[0].contains (id+1)=false:=sm;rw[e1,e2,e3,hlk];rfl
 have hpk:pack (rdO c p::hq) [0,id+1]=[rdO c p,.arr cs e g]:=by
  simp only[pack,Ag,Ak,Ab,hlk]<;>rfl
 unfold aU;have hid:idsL [A.ptr 0 0 0,A.sl (id+1) g 0 n]=[0,id+1]:=rfl;rw[hid,hre,hpk]
 have hma:aE (aH [0,id+1]) [A.ptr 0 0 0,A.sl (id+1) g 0 n]=[A.ptr 0 0 0,A.sl 1 g 0 n]:=by
  simp[aE,mapA,aH]
 rw[hma]
 have hc:bJ call env.hint [rdO c p,.arr cs e g] f [.ptr 0 0 0,.sl 1 g 0 n]=some (.sl 1 g2 0 n2,[rdO c q,.arr cs2 e g2]):=by
  unfold bJ;rw[hm];exact he
 rw[hc]
 have hcl:closed (rdO c p::hq) [0,id+1] [0,id+1]=true:=by
  simp only[closed,Bt,Ce,hlk,Ch];simp[idsL,idsA]
 have hb:back [0,id+1] (rdO c p::hq).length 2 1=some (id+1):=rfl;simp only[Ac]at hb;simp only[Ac,Aa,Af,Nat.reduceAdd,Ad,hcl,and_self,if_true,mapA,hb]
 congr 1
 simp only[bA,mapO,aE,mapA,Ak,Ai,Ci,Bk]
theorem HH:(env.hint 135).mode=0:=kr
theorem IW:(env.hint 71).mode=0:=kr
theorem aJd{c:List UInt8}(hc:c.length<=2000)(p:Int)(hp:0<=p)(hp2:p<=200000000):
  ∃(P:List Sys) (al:Int) (nx:List (List Int)) (ac:List Bool) (q:Int),P.length<=4/\SysB 80000 P/\AutB 60 nx ac/\p<=q/\q<=p+1000000/\(Dw 18 71 [] (.tup [.d (.ivs P.length (sysD P)),autD al nx ac]) c p q):=by
 obtain⟨P,q1,h1,h3,hs,a1,a2,he1⟩:=aKU hc p hp om;have hP:cP P:=⟨by omega,fun s h=>by have:=hs s h;omega⟩
 have htk:(sysD P).take (P.length*3)=sysD P:=qM (Ad _);obtain⟨al,nx,ac,q2,hb,hn1,b1,b2,kd2⟩:=oX hc (if bR P=true then parA P else -1) q1 om om;obtain⟨v,_,_,_,kd3⟩:=bN hc q2 20 om om;have kd1:=fun {R:Type} {L n:Nat} {hq:H} {k:KA R} (hn:16<=n) (hL:2^60<=L)=>aHF (R:=R) (hq:=hq) (k:=k) (args:=[]) aL3 rfl (he1 L n hn hL);have kl_a:=fun {R:Type} {L n:Nat} {k:A->Option R} (hn:6<=n) (hL:2^60<=L)=> @Q5 R L n k hn P hP hL;have kv_a:=fun {R:Type} {L n:Nat} {hq:H} {args:List A} {k:KA R}=>d7 (E:=env) (call:=aA env L n) (h:=hq) (k:=k) (args:=args) nS;generalize(if bR P=true then parA P else -1)=z at *
 by_cases hv:v=0
 ·obtain⟨al2,nx2,ac2,q3,hb2,b3,b4,kd4⟩:=SR hc (B:=10) om al nx ac hb (q2+1) om om;obtain⟨al3,nx3,ac3,q4,hb3,b5,b6,kd5⟩:=SR hc (B:=23) om al2 nx2 ac2 hb2 q3 om om;obtain⟨al4,nx4,ac4,q5,hb4,b7,b8,kd6⟩:=SR hc (B:=36) om al3 nx3 ac3 hb3 q4 om om
  rcases aAM hc P h1 h3 hs q5 om om with he5|⟨P2,q6,g,g1,g2,g3,g4,he5⟩
  ·have kd7:=fun {R:Type} {L n id:Nat} {hq:H} {k:KA R} (hn:7<=n) (hL:2^60<=L) (hi:hq[id]? =some (.arr (sysD P) 3 0))=>aCy (R:=R) (k:=k) hi HH rfl (fun _=>rfl) (he5 L n hn hL);refine⟨[],al4,nx4,ac4,q5+1,by simp,(fun s h=>by cases h),hb4.mono om,by omega,by omega,fun R L n hq k hn hL=>aS IW rfl (by simp[autD,idsA,idsL]) ?_⟩;unfold autD at kd2 kd4 kd5 kd6|-;clear he1 he5 hb hb2 hb3 hb4 hs hP;obtain _|n:=n;omega
   simp-implicitDefEqProofs (maxSteps:=9^7) (disch:=try exact Dz) only[↓DN,↓kAsg,↓kRet,UP,simprocAttr,NE,↓kd1,↓kd2,↓kd3,hv,↓kd4,↓kd5,↓kd6,↓kl_a,↓kv_a,htk,↓kd7,WU,wP,tV,Tryz.f71]
  ·have kd7:=fun {R:Type} {L n id:Nat} {hq:H} {k:KA R} (hn:7<=n) (hL:2^60<=L) (hi:hq[id]? =some (.arr (sysD P) 3 0))=>aDJ (R:=R) (k:=k) hi HH (he5 L n hn hL);have htk2:(sysD P2).take (P2.length*3)=sysD P2:=qM (Ad _);refine⟨P2,al4,nx4,ac4,q6,g1,g2,hb4.mono om,by omega,by omega,fun R L n hq k hn hL=>aS IW rfl (by simp[autD,idsA,idsL]) ?_⟩;unfold autD at kd2 kd4 kd5 kd6|-;clear he1 he5 hb hb2 hb3 hb4 hs hP g2;obtain _|n:=n;omega
   simp-implicitDefEqProofs (maxSteps:=9^7) (disch:=try exact Dz) only[↓DN,↓kAsg,↓kRet,UP,simprocAttr,NE,↓kd1,↓kd2,↓kd3,hv,↓kd4,↓kd5,↓kd6,↓kl_a,↓kv_a,htk,htk2,↓kd7,wP,tV,Tryz.f71]
 ·rcases aAM hc P h1 h3 hs (q2+1) om om with he5|⟨P2,q6,g,g1,g2,g3,g4,he5⟩
  ·have kd7:=fun {R:Type} {L n id:Nat} {hq:H} {k:KA R} (hn:7<=n) (hL:2^60<=L) (hi:hq[id]? =some (.arr (sysD P) 3 0))=>aCy (R:=R) (k:=k) hi HH rfl (fun _=>rfl) (he5 L n hn hL);refine⟨[],al,nx,ac,q2+1+1,by simp,(fun s h=>by cases h),hb.mono om,by omega,by omega,fun R L n hq k hn hL=>aS IW rfl (by simp[autD,idsA,idsL]) ?_⟩;unfold autD at kd2|-;clear he1 he5 hb hs hP;obtain _|n:=n;omega
   simp-implicitDefEqProofs (maxSteps:=9^7) (disch:=try exact Dz) only[↓DN,↓kAsg,↓kRet,UP,simprocAttr,NE,↓kd1,↓kd2,↓kd3,hv,↓kl_a,↓kv_a,htk,↓kd7,WU,wP,tV,Tryz.f71]
  ·have kd7:=fun {R:Type} {L n id:Nat} {hq:H} {k:KA R} (hn:7<=n) (hL:2^60<=L) (hi:hq[id]? =some (.arr (sysD P) 3 0))=>aDJ (R:=R) (k:=k) hi HH (he5 L n hn hL);have htk2:(sysD P2).take (P2.length*3)=sysD P2:=qM (Ad _);refine⟨P2,al,nx,ac,q6,g1,g2,hb.mono om,by omega,by omega,fun R L n hq k hn hL=>aS IW rfl (by simp[autD,idsA,idsL]) ?_⟩;unfold autD at kd2|-;clear he1 he5 hb hs hP g2;obtain _|n:=n;omega
   simp-implicitDefEqProofs (maxSteps:=9^7) (disch:=try exact Dz) only[↓DN,↓kAsg,↓kRet,UP,simprocAttr,NE,↓kd1,↓kd2,↓kd3,hv,↓kl_a,↓kv_a,htk,htk2,↓kd7,wP,tV,Tryz.f71]
theorem HE:(env.hint 136).mode=0:=kr
theorem aIT{c:List UInt8}(hc:c.length<=2000)(p:Int)(hp:0<=p)(hp2:p<=300000000):
  ∃(al st:Int) (es:List Edge) (al2 st2:Int) (es2:List Edge) (b:Int) (nx:List (List Int)) (ac:List Bool) (q:Int),es.length<=60000/\es2.length<=60000/\AutB 10 nx ac/\1<=nx.length/\p<=q/\q<=p+400000/\(Dw 16 136 [] (.tup [.agg [nI al,nI st,.d (.ivs es.length (aJ es))],autD b nx ac,.agg [nI al2,nI st2,.d (.ivs es2.length (aJ es2))]]) c p q):=by
 obtain⟨al,st,es,q1,a1,a2,a3,kd1⟩:=EA hc p hp om;obtain⟨al2,st2,es2,q2,b1,b2,b3,kd2⟩:=EA hc q1 om om;obtain⟨v,_,_,_,kd3⟩:=bN hc q2 4 om om
 by_cases hv:v=0
 ·obtain⟨al3,st3,es3,q3,c1,c2,c3,kd4⟩:=H9 hc (q2+1) om om;obtain⟨w,_,_,_,kd5⟩:=bN hc q3 4 om om
  by_cases hw:w=0
  ·obtain⟨al4,st4,es4,q4,d1,d2,d3,kd6⟩:=H9 hc (q3+1) om om;obtain⟨b,nx,ac,q5,hb,h1,e1,e2,kd7⟩:=oX hc (iOr .i64 al3 al4) q4 om om;refine⟨al3,st3,es3,al4,st4,es4,b,nx,ac,q5,c1,d1,hb,h1,by omega,by omega,fun R L n hq k hn hL=>aS HE rfl (by simp[autD,idsA,idsL]) ?_⟩;unfold autD at kd7|-;clear hb;obtain _|n:=n;omega
   simp-implicitDefEqProofs (maxSteps:=9^7) (disch:=try exact Dz) only[↓DN,↓kRet,UP,simprocAttr,↓kd1,↓kd2,↓kd3,hv,↓kd4,↓kd5,hw,↓kd6,↓kd7,yI,tM,Tryz.f136]
  ·obtain⟨b,nx,ac,q5,hb,h1,e1,e2,kd7⟩:=oX hc (iOr .i64 al3 al2) (q3+1) om om;refine⟨al3,st3,es3,al2,st2,es2,b,nx,ac,q5,c1,b1,hb,h1,by omega,by omega,fun R L n hq k hn hL=>aS HE rfl (by simp[autD,idsA,idsL]) ?_⟩;unfold autD at kd7|-;clear hb;obtain _|n:=n;omega
   simp-implicitDefEqProofs (maxSteps:=9^7) (disch:=try exact Dz) only[↓DN,↓kRet,UP,simprocAttr,↓kd1,↓kd2,↓kd3,hv,↓kd4,↓kd5,hw,↓kd7,yI,tM,Tryz.f136]
 ·obtain⟨w,_,_,_,kd5⟩:=bN hc (q2+1) 4 om om
  by_cases hw:w=0
  ·obtain⟨al4,st4,es4,q4,d1,d2,d3,kd6⟩:=H9 hc (q2+1+1) om om;obtain⟨b,nx,ac,q5,hb,h1,e1,e2,kd7⟩:=oX hc (iOr .i64 al al4) q4 om om;refine⟨al,st,es,al4,st4,es4,b,nx,ac,q5,a1,d1,hb,h1,by omega,by omega,fun R L n hq k hn hL=>aS HE rfl (by simp[autD,idsA,idsL]) ?_⟩;unfold autD at kd7|-;clear hb;obtain _|n:=n;omega
   simp-implicitDefEqProofs (maxSteps:=9^7) (disch:=try exact Dz) only[↓DN,↓kRet,UP,simprocAttr,↓kd1,↓kd2,↓kd3,hv,↓kd5,hw,↓kd6,↓kd7,yI,tM,Tryz.f136]
  ·obtain⟨b,nx,ac,q5,hb,h1,e1,e2,kd7⟩:=oX hc (iOr .i64 al al2) (q2+1+1) om om;refine⟨al,st,es,al2,st2,es2,b,nx,ac,q5,a1,b1,hb,h1,by omega,by omega,fun R L n hq k hn hL=>aS HE rfl (by simp[autD,idsA,idsL]) ?_⟩;unfold autD at kd7|-;clear hb;obtain _|n:=n;omega
   simp-implicitDefEqProofs (maxSteps:=9^7) (disch:=try exact Dz) only[↓DN,↓kRet,UP,simprocAttr,↓kd1,↓kd2,↓kd3,hv,↓kd5,hw,↓kd7,yI,tM,Tryz.f136]
def chgM(x y:Edge)(m:Bool):Bool:=m&& !bY x y&& !decide (x=y)
def chgE(x:Edge)(gone:Int):List Edge->Nat->Bool->List Edge->List Edge×Bool
 | [],_,m,o=>(o,m)
 |y::ys,i,m,o=>chgE x gone ys (i+1) (chgM x y m) ((if(m&&bY x y)=true then o++[x]else o)++(if(i:Int)=gone then []else [y]))
theorem NX(x:Edge)(gone:Int):∀(l:List Edge) (i:Nat) (m:Bool) (o:List Edge),(chgE x gone l i m o).1.length<=o.length+2*l.length
 | [],_,_,o=>by simp[chgE]
 |y::ys,i,m,o=>by
  unfold chgE;refine Bf (NX x gone ys _ _ _) ?_;have h1:(if(m&&bY x y)=true then o++[x]else o).length<=o.length+1:=by split<;>simp
  have h2:(if(i:Int)=gone then []else [y]).length<=1:=by split<;>simp
  rw[Ah,Ac];omega
theorem aBJ(x:Edge)(gone:Int):∀(l:List Edge) (i:Nat) (o:List Edge),(chgE x gone l i false o).2=false
 | [],_,_=>rfl
 |y::ys,i,o=>by
  unfold chgE;exact aBJ x gone ys _ _
theorem aA5{R:Type}{L n:Nat}(hn:3<=n){c:List UInt8}{p al st x1 x2 x3 gone:Int}{es:List Edge}(hl:es.length<=4294967290){k:KE R}:∀(j i m:Nat) (mr:Bool) (o:List Edge) (len e:Nat) (hi:i+j=es.length) (hm:j<m) (hlen:len=o.length) (he:e=eE o) (ho:o.length+2*j<=4294967290),
  aV env (aA env L n) L 1 [] Bz29 (CC 0) (U2 (U1 (Z4 (Z1 (U1 (Z2 (U32 (U32 (U16 (U8 (U4 (U2 ([]))))))))))))) m (Y2 (Y1 (.ptr 1 0 0::.ptr 2 0 0::.ptr 3 0 0::nI gone::.ptr 4 0 0::Y1 (.d (.bool mr)::nI i::Y32 (Y32 (Y16 (Y8 (Y4 (Y2 ([])))))))))) [rdO c p,.box [nI al,nI st,.d (.ivs es.length (aJ es))],.box [nI 0,nI 0,.sl 5 0 0 0],.box [nI al,nI st,.sl 6 0 0 len],.box [nI x1,nI x2,nI x3],.arr [] 0 0,.arr (aJ o) e 0] k
  =k (.exit 0) (Y2 (Y1 (.ptr 1 0 0::.ptr 2 0 0::.ptr 3 0 0::nI gone::.ptr 4 0 0::Y1 (.d (.bool (((chgE ⟨x1,x2,x3⟩ gone (es.drop i) i mr o).2)))::nI (es.length)::Y32 (Y32 (Y16 (Y8 (Y4 (Y2 ([])))))))))) [rdO c p,.box [nI al,nI st,.d (.ivs es.length (aJ es))],.box [nI 0,nI 0,.sl 5 0 0 0],.box [nI al,nI st,.sl 6 0 0 (chgE ⟨x1,x2,x3⟩ gone (es.drop i) i mr o).1.length],.box [nI x1,nI x2,nI x3],.arr [] 0 0,.arr (aJ (chgE ⟨x1,x2,x3⟩ gone (es.drop i) i mr o).1) (eE (chgE ⟨x1,x2,x3⟩ gone (es.drop i) i mr o).1) 0]:=by
 intro j
 induction j with
 |zero=>
  intro i m mr o len e hi hm hlen he ho;obtain _|m:=m;omega;obtain rfl:i=es.length:=om;subst hlen;subst he;rw[Cg]
  simp-implicitDefEqProofs (maxSteps:=9^7) (disch:=try exact Dz) only[↓DN,↓kRet,UP,simprocAttr,Al,bV,cN,Tryz.f140]<;>rfl
 |succ j ih=>
  intro i m mr o len e hi hm hlen he ho;obtain _|m:=m;omega;subst hlen;have hk:i<es.length:=om;have hc:(i:Int)<es.length:=om;have hi0:(0:Int)<=i:=om
  have ih':=ih (i+1) m (chgM ⟨x1,x2,x3⟩ (es.getD i default) mr) ((if(mr&&bY ⟨x1,x2,x3⟩ (es.getD i default))=true then o++[⟨x1,x2,x3⟩]else o)++(if(i:Int)=gone then []else [es.getD i default])) _ _ om om rfl rfl (by
   have h1:(if(mr&&bY ⟨x1,x2,x3⟩ (es.getD i default))=true then o++[⟨x1,x2,x3⟩]else o).length<=o.length+1:=by split<;>simp
   have h2:(if(i:Int)=gone then []else [es.getD i default]).length<=1:=by split<;>simp
   rw[Ah];omega)
  rw[cs1 i]at ih';rw[bM hk (d:=default)];simp only[chgE];clear ih;generalize hb:bY ⟨x1,x2,x3⟩ (es.getD i default)=bf at *;generalize hgen:chgE ⟨x1,x2,x3⟩ gone (es.drop (i+1)) (i+1) (chgM ⟨x1,x2,x3⟩ (es.getD i default) mr) ((if(mr&&bf)=true then o++[⟨x1,x2,x3⟩]else o)++(if(i:Int)=gone then []else [es.getD i default]))=W at *;clear hgen;have hb2:bY ⟨x1,x2,x3⟩ ⟨(es.getD i default).fr,(es.getD i default).lt,(es.getD i default).to⟩=bf:=hb;have hne:chgM ⟨x1,x2,x3⟩ (es.getD i default) mr=(mr&& !bf&& !decide ((⟨x1,x2,x3⟩:Edge)=es.getD i default)):=by unfold chgM;rw[hb]
  rw[hne]at ih';generalize hq:decide ((⟨x1,x2,x3⟩:Edge)=es.getD i default)=dq at *;have hq2:decide ((⟨x1,x2,x3⟩:Edge)=⟨(es.getD i default).fr,(es.getD i default).lt,(es.getD i default).to⟩)=dq:=hq;clear hb hq hne
  by_cases hg:(i:Int)=gone
  ·subst hg;simp only[if_true,Ai]at ih'
   cases mr with
   |false=>
    simp only[Bn,Aj,if_false]at ih'
    simp-implicitDefEqProofs (maxSteps:=9^7) (disch:=try exact Dz) only[↓DN,↓kRet,UP,simprocAttr,hc,he,↓ih',bV,cN,Tryz.f140]
   |true=>
    cases bf with
    |true=>
     simp only[Cu,Dg,Ca,Bn,if_true,EG,Ah,Bu]at ih'
     rcases xP o with h1|h1
     ·obtain rfl:e=0:=om
      simp-implicitDefEqProofs (maxSteps:=9^7) (disch:=try exact Dz) only[↓DN,↓kAsg,↓kRet,UP,simprocAttr,↓d8,LE,hc,hi0,hb2,↓ih',bV,cN,Tryz.f140]
     ·obtain rfl:e=3:=om
      simp-implicitDefEqProofs (maxSteps:=9^7) (disch:=try exact Dz) only[↓DN,↓kAsg,↓kRet,UP,simprocAttr,↓d8,LE,hc,hi0,hb2,↓ih',bV,cN,Tryz.f140]
    |false=>
     cases dq with
     |true=>
      simp only[Cu,Dg,Bool.not_false,Ca,Aj,if_false]at ih'
      simp-implicitDefEqProofs (maxSteps:=9^7) (disch:=try exact Dz) only[↓DN,↓kAsg,↓kRet,UP,simprocAttr,↓d8,LE,hc,hi0,hb2,hq2,he,↓ih',bV,cN,Tryz.f140]
     |false=>
      simp only[Cu,Bool.not_false,Bm,Aj,if_false]at ih'
      simp-implicitDefEqProofs (maxSteps:=9^7) (disch:=try exact Dz) only[↓DN,↓kRet,UP,simprocAttr,↓d8,LE,hc,hi0,hb2,hq2,he,↓ih',bV,cN,Tryz.f140]
  ·simp only[hg,if_false]at ih'
   cases mr with
   |false=>
    simp only[Bn,Aj,if_false,EG,Ah,Bu]at ih'
    rcases xP o with h1|h1
    ·obtain rfl:e=0:=om
     simp-implicitDefEqProofs (maxSteps:=9^7) (disch:=try exact Dz) only[↓DN,↓kRet,UP,simprocAttr,LE,hc,hi0,hg,↓ih',bV,cN,Tryz.f140]
    ·obtain rfl:e=3:=om
     simp-implicitDefEqProofs (maxSteps:=9^7) (disch:=try exact Dz) only[↓DN,↓kRet,UP,simprocAttr,LE,hc,hi0,hg,↓ih',bV,cN,Tryz.f140]
   |true=>
    cases bf with
    |true=>
     simp only[Cu,Dg,Ca,Bn,if_true,EG,Ah,Bu]at ih'
     rcases xP o with h1|h1
     ·obtain rfl:e=0:=om
      simp-implicitDefEqProofs (maxSteps:=9^7) (disch:=try exact Dz) only[↓DN,↓kAsg,↓kRet,UP,simprocAttr,↓d8,LE,hc,hi0,hb2,hg,↓ih',bV,cN,Tryz.f140]
     ·obtain rfl:e=3:=om
      simp-implicitDefEqProofs (maxSteps:=9^7) (disch:=try exact Dz) only[↓DN,↓kAsg,↓kRet,UP,simprocAttr,↓d8,LE,hc,hi0,hb2,hg,↓ih',bV,cN,Tryz.f140]
    |false=>
     cases dq with
     |true=>
      simp only[Cu,Dg,Bool.not_false,Ca,Aj,if_false,EG,Ah,Bu]at ih'
      rcases xP o with h1|h1
      ·obtain rfl:e=0:=om
       simp-implicitDefEqProofs (maxSteps:=9^7) (disch:=try exact Dz) only[↓DN,↓kAsg,↓kRet,UP,simprocAttr,↓d8,LE,hc,hi0,hb2,hq2,hg,↓ih',bV,cN,Tryz.f140]
      ·obtain rfl:e=3:=om
       simp-implicitDefEqProofs (maxSteps:=9^7) (disch:=try exact Dz) only[↓DN,↓kAsg,↓kRet,UP,simprocAttr,↓d8,LE,hc,hi0,hb2,hq2,hg,↓ih',bV,cN,Tryz.f140]
     |false=>
      simp only[Cu,Bool.not_false,Bm,Aj,if_false,EG,Ah,Bu]at ih'
      rcases xP o with h1|h1
      ·obtain rfl:e=0:=om
       simp-implicitDefEqProofs (maxSteps:=9^7) (disch:=try exact Dz) only[↓DN,↓kRet,UP,simprocAttr,↓d8,LE,hc,hi0,hb2,hq2,hg,↓ih',bV,cN,Tryz.f140]
      ·obtain rfl:e=3:=om
       simp-implicitDefEqProofs (maxSteps:=9^7) (disch:=try exact Dz) only[↓DN,↓kRet,UP,simprocAttr,↓d8,LE,hc,hi0,hb2,hq2,hg,↓ih',bV,cN,Tryz.f140]
theorem D8:(env.hint 140).mode=0:=kr
theorem U3{c:List UInt8}(hc:c.length<=2000)(al st:Int)(es:List Edge)(hes:es.length<=60000)(p:Int)(hp:0<=p)(hp2:p<=600000000):∃(es2:List Edge) (q:Int),es2.length<=130000/\p<=q/\q<=p+10/\(Dw 5 140 [.agg [nI al,nI st,.d (.ivs es.length (aJ es))]] (.agg [nI al,nI st,.d (.ivs es2.length (aJ es2))]) c p q):=by
 obtain⟨gone,_,_,_,kd1⟩:=bN hc p ((es.length:Int)+2) hp om;obtain⟨x,_,_,_,kd2⟩:=bN hc (p+1) st om om;obtain⟨y,_,_,_,kd3⟩:=bN hc (p+1+1) st om om;have hw:IntKind.i64.wrap ((es.length:Int)+2)=(es.length:Int)+2:=dW om om;have hll:=dF al;have het:(aJ es).take (es.length*3)=aJ es:=j7 (Ad _);have loop_l:=fun {R:Type} {L n:Nat} {k:KE R} (hn:3<=n) (hL:2^60<=L) (q x1 x2 x3:Int) (mr:Bool)=> @aA5 R L n hn c q al st x1 x2 x3 gone es om k es.length 0 L mr [] 0 0 om om rfl rfl (by simp only[Aa,Af];omega);simp only[Ay,Av,cV]at loop_l
 by_cases h0:0<(aG al).length
 ·have h0i:(0:Int)<(aG al).length:=om;obtain⟨v,_,_,_,kd4⟩:=bN hc (p+1+1+1) 2 om om
  by_cases hv:v=0
  ·obtain⟨u,u0,u1,_,kd5⟩:=bN hc (p+1+1+1+1) (aG al).length om om;have u1:=u1 om;have hu:u.toNat<(aG al).length:=om;have h1:=NX ⟨x,(aG al).getD u.toNat 0,y⟩ gone es 0 true [];have loop_c:=fun {R:Type} {L n:Nat} {k:KE R} (hn:3<=n) (hL:2^60<=L) {q:Int}=>loop_l (R:=R) (L:=L) (n:=n) (k:=k) hn hL q x ((aG al).getD u.toNat 0) y true;generalize chgE ⟨x,(aG al).getD u.toNat 0,y⟩ gone es 0 true []=W at *;obtain⟨o,m⟩:=W;simp only[Aa,Af]at h1 loop_c;clear loop_l
   cases m with
   |true=>
    refine⟨o++[⟨x,(aG al).getD u.toNat 0,y⟩],p+1+1+1+1+1,by rw[Ah,Bu];omega,by omega,by omega,fun R L n hq k hn hL=>aS D8 (by simp[idsL,idsA]) (by simp[idsL,idsA]) ?_⟩
    rcases xP o with g|g
    ·obtain _|n:=n;omega
     simp-implicitDefEqProofs (maxSteps:=9^7) (disch:=try exact Dz) only[↓DN,↓kAsg,↓kRet,UP,simprocAttr,↓bX,LE,↓kd1,hw,↓kd2,↓kd3,h0i,↓kd4,hv,↓kd5,u0,u1,hu,↓loop_c,g,iL,iB,Tryz.f140]
    ·obtain _|n:=n;omega
     simp-implicitDefEqProofs (maxSteps:=9^7) (disch:=try exact Dz) only[↓DN,↓kAsg,↓kRet,UP,simprocAttr,↓bX,LE,↓kd1,hw,↓kd2,↓kd3,h0i,↓kd4,hv,↓kd5,u0,u1,hu,↓loop_c,g,iL,iB,Tryz.f140]
   |false=>
    refine⟨o,p+1+1+1+1+1,by omega,by omega,by omega,fun R L n hq k hn hL=>aS D8 (by simp[idsL,idsA]) (by simp[idsL,idsA]) ?_⟩
    rcases xP o with g|g
    ·have ho:o=[]:=by unfold eE at g;split at g<;>simp_all
     subst ho;obtain _|n:=n;omega
     simp-implicitDefEqProofs (maxSteps:=9^7) (disch:=try exact Dz) only[↓DN,↓kAsg,↓kRet,UP,simprocAttr,↓bX,↓kd1,hw,↓kd2,↓kd3,h0i,↓kd4,hv,↓kd5,u0,u1,hu,↓loop_c,g,cV,iL,iB,Tryz.f140]
    ·obtain _|n:=n;omega
     simp-implicitDefEqProofs (maxSteps:=9^7) (disch:=try exact Dz) only[↓DN,↓kAsg,↓kRet,UP,simprocAttr,↓bX,LE,↓kd1,hw,↓kd2,↓kd3,h0i,↓kd4,hv,↓kd5,u0,u1,hu,↓loop_c,g,iL,iB,Tryz.f140]
  ·have h1:=NX ⟨x,0,y⟩ gone es 0 false [];have h2:=aBJ ⟨x,0,y⟩ gone es 0 [];have loop_c:=fun {R:Type} {L n:Nat} {k:KE R} (hn:3<=n) (hL:2^60<=L) {q:Int}=>loop_l (R:=R) (L:=L) (n:=n) (k:=k) hn hL q x 0 y false;generalize chgE ⟨x,0,y⟩ gone es 0 false []=W at *;obtain⟨o,m⟩:=W;simp only[Aa,Af]at h1 h2 loop_c;subst h2;clear loop_l;refine⟨o,p+1+1+1+1,by omega,by omega,by omega,fun R L n hq k hn hL=>aS D8 (by simp[idsL,idsA]) (by simp[idsL,idsA]) ?_⟩
   rcases xP o with g|g
   ·have ho:o=[]:=by unfold eE at g;split at g<;>simp_all
    subst ho;obtain _|n:=n;omega
    simp-implicitDefEqProofs (maxSteps:=9^7) (disch:=try exact Dz) only[↓DN,↓kAsg,↓kRet,UP,simprocAttr,↓bX,↓kd1,hw,↓kd2,↓kd3,h0i,↓kd4,hv,↓loop_c,g,cV,iL,iB,Tryz.f140]
   ·obtain _|n:=n;omega
    simp-implicitDefEqProofs (maxSteps:=9^7) (disch:=try exact Dz) only[↓DN,↓kAsg,↓kRet,UP,simprocAttr,↓bX,LE,↓kd1,hw,↓kd2,↓kd3,h0i,↓kd4,hv,↓loop_c,g,iL,iB,Tryz.f140]
 ·have h0i:¬(0:Int)<(aG al).length:=om;have h1:=NX ⟨x,0,y⟩ gone es 0 false [];have h2:=aBJ ⟨x,0,y⟩ gone es 0 [];have loop_c:=fun {R:Type} {L n:Nat} {k:KE R} (hn:3<=n) (hL:2^60<=L) {q:Int}=>loop_l (R:=R) (L:=L) (n:=n) (k:=k) hn hL q x 0 y false;generalize chgE ⟨x,0,y⟩ gone es 0 false []=W at *;obtain⟨o,m⟩:=W;simp only[Aa,Af]at h1 h2 loop_c;subst h2;clear loop_l;refine⟨o,p+1+1+1,by omega,by omega,by omega,fun R L n hq k hn hL=>aS D8 (by simp[idsL,idsA]) (by simp[idsL,idsA]) ?_⟩
  rcases xP o with g|g
  ·have ho:o=[]:=by unfold eE at g;split at g<;>simp_all
   subst ho;obtain _|n:=n;omega
   simp-implicitDefEqProofs (maxSteps:=9^7) (disch:=try exact Dz) only[↓DN,↓kAsg,↓kRet,UP,simprocAttr,↓bX,↓kd1,hw,↓kd2,↓kd3,h0i,↓loop_c,g,cV,iL,iB,Tryz.f140]
  ·obtain _|n:=n;omega
   simp-implicitDefEqProofs (maxSteps:=9^7) (disch:=try exact Dz) only[↓DN,↓kAsg,↓kRet,UP,simprocAttr,↓bX,LE,↓kd1,hw,↓kd2,↓kd3,h0i,↓loop_c,g,iL,iB,Tryz.f140]
theorem aE3:bZ (aA env 3000 12 138 [.d (.str [97,98,99,32,56,32,48,97,48,32,48,97,49,32,48,98,48,32,49,97,50,32,49,98,50,32,50,97,51,32,50,98,51,32,51,97,52,32,51,98,52,32,52,97,53,32,52,98,53,32,53,97,54,32,53,98,54,32,54,99,55])] [])=true:=kr
theorem aMt:bZ (aA env 3000 12 138 [.d (.str [97,98,99,32,51,32,48,97,49,32,49,98,50,32,50,99,48])] [])=true:=kr
theorem aLN:bZ (aA env 3000 12 138 [.d (.str [97,99,32,51,32,48,97,49,32,49,97,50,32,50,99,48])] [])=true:=kr
theorem aLo:mG (aA env 3000 12 139 [.d (.str [100,32,43,49,32,43,50,32,45,50])] [])=true:=kr
theorem aKh:bZ (aA env 3000 12 138 [.d (.str [97,98,32,53,32,48,97,49,32,49,97,50,32,49,98,48,32,50,97,51,32,50,98,49,32,51,97,52,32,51,98,50,32,52,98,51])] [])=true:=kr
theorem aKQ:bZ (aA env 3000 12 138 [.d (.str [97,99,32,52,32,48,97,49,32,49,97,50,32,50,99,51,32,51,97,48])] [])=true:=kr
theorem aKR:bZ (aA env 3000 12 138 [.d (.str [97,98,99,32,50,32,48,97,49,32,49,98,48,32,49,99,49])] [])=true:=kr
theorem aNw:bZ (aA env 3000 12 138 [.d (.str [97,98,99,32,49,32,48,97,48,32,48,98,48])] [])=true:=kr
theorem aKN:mG (aA env 3000 12 139 [.d (.str [98,32,43,49,32,43,50,32,45,50])] [])=true:=kr
theorem aLk:bZ (aA env 3000 12 138 [.d (.str [97,98,32,52,32,48,97,49,32,49,97,50,32,49,98,48,32,50,97,51,32,50,98,49,32,51,98,50])] [])=true:=kr
theorem aLQ:mG (aA env 3000 12 139 [.d (.str [97,98,32,43,49,44,48,32,43,50,44,48,32,43,51,44,49,32,45,51,44,51])] [])=true:=kr
theorem aMJ:mG (aA env 3000 12 139 [.d (.str [97,98,32,43,49,44,48,32,43,50,44,48,32,45,50,44,50])] [])=true:=kr
theorem aMs:bZ (aA env 3000 12 138 [.d (.str [97,98,32,51,32,48,97,49,32,49,97,50,32,49,98,48])] [])=true:=kr
theorem WP:bZ (aA env 3000 12 138 [.d (.str [97,98,32,50,32,48,97,49,32,49,98,48])] [])=true:=kr
theorem aKf:mG (aA env 3000 12 139 [.d (.str [99,32,43,49,32,43,50,32,45,50])] [])=true:=kr
theorem aLW:bZ (aA env 3000 12 138 [.d (.str [97,98,100,32,51,32,48,97,49,32,48,100,48,32,49,98,48,32,49,100,50,32,50,97,50])] [])=true:=kr
theorem aNa:bZ (aA env 3000 12 138 [.d (.str [97,98,32,51,32,48,97,49,32,48,98,48,32,49,98,50,32,50,97,50,32,50,98,50])] [])=true:=kr
theorem aGP:mG (aA env 3000 12 139 [.d (.str [97,99,32,43,49,44,50,32,43,50,44,48,32,45,50,44,50])] [])=true:=kr
theorem aKC:bZ (aA env 3000 12 138 [.d (.str [97,98,99,32,50,32,48,97,48,32,48,98,48,32,48,99,49])] [])=true:=kr
theorem aFe:bZ (aA env 3000 12 138 [.d (.str [98,99,32,50,32,48,98,49,32,49,99,48])] [])=true:=kr
theorem aFS:mG (aA env 3000 12 139 [.d (.str [99,32,43,49,32,45,49])] [])=true:=kr
def eN:List (List (List UInt8)):=[[[97,98,32,50,32,48,97,49,32,49,98,48],[98,99,32,50,32,48,98,49,32,49,99,48],[97,99,32,43,49,44,50,32,43,50,44,48,32,45,50,44,50]],[[97,98,32,51,32,48,97,49,32,49,97,50,32,49,98,48],[97,98,32,50,32,48,97,49,32,49,98,48],[97,98,32,43,49,44,48,32,43,50,44,48,32,45,50,44,50]],[[97,98,99,32,56,32,48,97,48,32,48,97,49,32,48,98,48,32,49,97,50,32,49,98,50,32,50,97,51,32,50,98,51,32,51,97,52,32,51,98,52,32,52,97,53,32,52,98,53,32,53,97,54,32,53,98,54,32,54,99,55],[97,98,99,32,49,32,48,97,48,32,48,98,48],[99,32,43,49,32,45,49]],[[97,98,99,32,51,32,48,97,49,32,49,98,50,32,50,99,48],[98,99,32,50,32,48,98,49,32,49,99,48],[97,99,32,43,49,44,50,32,43,50,44,48,32,45,50,44,50]],[[97,98,32,51,32,48,97,49,32,48,98,48,32,49,98,50,32,50,97,50,32,50,98,50],[97,98,99,32,50,32,48,97,49,32,49,98,48,32,49,99,49],[98,32,43,49,32,43,50,32,45,50]],[[97,98,100,32,51,32,48,97,49,32,48,100,48,32,49,98,48,32,49,100,50,32,50,97,50],[97,98,32,50,32,48,97,49,32,49,98,48],[100,32,43,49,32,43,50,32,45,50]],[[97,98,99,32,56,32,48,97,48,32,48,97,49,32,48,98,48,32,49,97,50,32,49,98,50,32,50,97,51,32,50,98,51,32,51,97,52,32,51,98,52,32,52,97,53,32,52,98,53,32,53,97,54,32,53,98,54,32,54,99,55],[97,98,99,32,50,32,48,97,48,32,48,98,48,32,48,99,49],[99,32,43,49,32,45,49]],[[97,98,32,52,32,48,97,49,32,49,97,50,32,49,98,48,32,50,97,51,32,50,98,49,32,51,98,50],[97,98,32,53,32,48,97,49,32,49,97,50,32,49,98,48,32,50,97,51,32,50,98,49,32,51,97,52,32,51,98,50,32,52,98,51],[97,98,32,43,49,44,48,32,43,50,44,48,32,43,51,44,49,32,45,51,44,51]],[[97,99,32,51,32,48,97,49,32,49,97,50,32,50,99,48],[97,99,32,52,32,48,97,49,32,49,97,50,32,50,99,51,32,51,97,48],[99,32,43,49,32,43,50,32,45,50]]]
theorem aJl:∀t∈eN,t.length=3/\bZ (aA env 3000 12 138 [.d (.str (t.getD 0 []))] [])=true/\bZ (aA env 3000 12 138 [.d (.str (t.getD 1 []))] [])=true/\mG (aA env 3000 12 139 [.d (.str (t.getD 2 []))] [])=true:=by
 intro t ht;simp only[eN,Au,Bo,or_false]at ht
 rcases ht with rfl|rfl|rfl|rfl|rfl|rfl|rfl|rfl|rfl
 ·exact⟨rfl,WP,aFe,aGP⟩
 ·exact⟨rfl,aMs,WP,aMJ⟩
 ·exact⟨rfl,aE3,aNw,aFS⟩
 ·exact⟨rfl,aMt,aFe,aGP⟩
 ·exact⟨rfl,aNa,aKR,aKN⟩
 ·exact⟨rfl,aLW,WP,aLo⟩
 ·exact⟨rfl,aE3,aKC,aFS⟩
 ·exact⟨rfl,aLk,aKh,aLQ⟩
 ·exact⟨rfl,aLN,aKQ,aKf⟩
theorem aMZ{k:Nat}(h:k<9):(((eN.map fun r=>D.ivs r.length (nX r)).drop k).map A.d).head? =some (.d (.ivs (eN.getD k []).length (nX (eN.getD k [])))):=by
 rw[Dm,Cs,Bc,Ab,Ae (show k<eN.length from h)];rfl
theorem aM5:(eN.map fun r=>D.ivs r.length (nX r)).take 9=eN.map fun r=>D.ivs r.length (nX r):=by
 exact Bx (by simp[eN])
theorem aOJ:(eN.map fun r=>D.ivs r.length (nX r)).length=9:=by simp[eN]
theorem aEx{L n:Nat}(hn:1<=n):aA env L n 137 [] []=some (.d (.ivs 9 (eN.map fun r=>.ivs r.length (nX r))),[]):=by
 obtain _|n:=n;omega
 kernel_rfl
theorem aEn{R:Type}{L n:Nat}{hq:H}{k:KA R}(hn:1<=n):aU env (aA env L n) hq 137 [] k=k (.d (.ivs 9 (eN.map fun r=>.ivs r.length (nX r)))) hq:=
 cW rfl (aEx hn) rfl (.inr rfl)
theorem aLa{t:List (List UInt8)}(ht:t∈eN):t.length=3/\∃(al st:Int) (l:List Edge) (ok:Bool) (al2 st2:Int) (l2:List Edge) (ok2:Bool) (b:Int) (nx:List (List Int)) (ac:List Bool),l.length<=100/\l2.length<=100/\1<=nx.length/\AutB 12 nx ac
  /\(∀ {R:Type} {L n:Nat} {hq:H} {k:KA R},12<=n->2^60<=L->aU env (aA env L n) hq 138 [.d (.str (t.getD 0 []))] k=k (.tup [.agg [nI al,nI st,.d (.ivs l.length (aJ l))],.d (.bool ok)]) hq)
  /\(∀ {R:Type} {L n:Nat} {hq:H} {k:KA R},12<=n->2^60<=L->aU env (aA env L n) hq 138 [.d (.str (t.getD 1 []))] k=k (.tup [.agg [nI al2,nI st2,.d (.ivs l2.length (aJ l2))],.d (.bool ok2)]) hq)
  /\(∀ {R:Type} {L n:Nat} {hq:H} {k:KA R},12<=n->2^60<=L->aU env (aA env L n) hq 139 [.d (.str (t.getD 2 []))] k=k (.tup [autD b nx ac,.d (.bool true)]) hq):=by
 obtain⟨h0,h1,h2,h3⟩:=aJl t ht;obtain⟨al,st,l,ok,a1,a2⟩:=R8 h1;obtain⟨al2,st2,l2,ok2,b1,b2⟩:=R8 h2;obtain⟨b,nx,ac,c1,c2,c3,c4,c5⟩:=aJ6 h3;refine⟨h0,al,st,l,ok,al2,st2,l2,ok2,b,nx,ac,a1,b1,c1,⟨c2,by omega,fun r hr=>by have:=c4 r hr;have:=dF b;omega⟩,?_,?_,?_⟩
 ·exact fun hn hL=>cW rfl (tF om hn _ _ _ _ a2) rfl (.inr rfl)
 ·exact fun hn hL=>cW rfl (tF om hn _ _ _ _ b2) rfl (.inr rfl)
 ·exact fun hn hL=>cW rfl (tF om hn _ _ _ _ c5) rfl (.inr rfl)
theorem BW:(env.hint 73).mode=0:=kr
theorem aIX{c:List UInt8}(hc:c.length<=2000)(p:Int)(hp:0<=p)(hp2:p<=200000000):
  ∃(al st:Int) (es:List Edge) (al2 st2:Int) (es2:List Edge) (b:Int) (nx:List (List Int)) (ac:List Bool) (q:Int),es.length<=130000/\es2.length<=130000/\AutB 30 nx ac/\p<=q/\q<=p+500000/\(Dw 17 73 [] (.tup [.agg [nI al,nI st,.d (.ivs es.length (aJ es))],.agg [nI al2,nI st2,.d (.ivs es2.length (aJ es2))],autD b nx ac]) c p q):=by
 obtain⟨al,st,es,al2,st2,es2,b,nx,ac,q1,a1,a2,hb,a3,a4,a5,kd1⟩:=aIT hc p hp om;obtain⟨v,_,_,_,kd2⟩:=bN hc q1 3 om om
 by_cases hv:v=0
 ·obtain⟨i,i0,i1,_,kd3⟩:=bN hc (q1+1) 9 om om;have i9:=i1 om;have hi:i.toNat<9:=om;obtain⟨h3,al3,st3,l3,ok,al4,st4,l4,ok2,b2,nx2,ac2,c1,c2,c3,hb2,kc_1,kc_2,kc_3⟩:=aLa (t:=eN.getD i.toNat []) (YH (show i.toNat<eN.length from hi));have gh:=aMZ hi;have g0:=EF (l:=eN.getD i.toNat []) (k:=0) om;have g1:=EF (l:=eN.getD i.toNat []) (k:=1) om;have g2:=EF (l:=eN.getD i.toNat []) (k:=2) om;obtain⟨u,_,_,_,kd4⟩:=bN hc (q1+1+1) 4 om om;rw[h3]at gh;generalize eN.getD i.toNat []=t at *;have t1:=aM5;have t2:=aOJ;have kc_t:=fun {R:Type} {L n:Nat} {hq:H} {k:KA R} (hn:1<=n)=> @aEn R L n hq k hn;generalize(eN.map fun r=>D.ivs r.length (nX r))=W at *;have i9':¬9<=i:=om;have hW:1<=9-i.toNat:=om;have g0':((nX t).map A.d).head? =some (.d (.str (t.getD 0 []))):=g0
  by_cases hu0:u=0
  ·obtain⟨es5,q5,d1,d2,d3,kd5⟩:=U3 hc al3 st3 l3 om (q1+1+1+1) om om;refine⟨al3,st3,es5,al4,st4,l4,b2,nx2,ac2,q5,by omega,by omega,hb2.mono om,by omega,by omega,fun R L n hq k hn hL=>aS BW rfl (by simp[autD,idsA,idsL]) ?_⟩;unfold autD at kd1 kc_3|-;clear hb hb2;obtain _|n:=n;omega
   simp-implicitDefEqProofs (maxSteps:=9^7) (disch:=try exact Dz) only[↓DN,↓kRet,UP,simprocAttr,↓kd1,↓kd2,hv,↓kc_t,↓kd3,↓kc_1,↓kc_2,↓kc_3,↓kd4,hu0,↓kd5,t2,gh,g0',g1,g2,h3,i0,i9,hi,Cp,qT,rK,pE,Tryz.f73]
  by_cases hu1:u=1
  ·obtain⟨es5,q5,d1,d2,d3,kd5⟩:=U3 hc al4 st4 l4 om (q1+1+1+1) om om;refine⟨al3,st3,l3,al4,st4,es5,b2,nx2,ac2,q5,by omega,by omega,hb2.mono om,by omega,by omega,fun R L n hq k hn hL=>aS BW rfl (by simp[autD,idsA,idsL]) ?_⟩;unfold autD at kd1 kc_3|-;clear hb hb2;obtain _|n:=n;omega
   simp-implicitDefEqProofs (maxSteps:=9^7) (disch:=try exact Dz) only[↓DN,↓kRet,UP,simprocAttr,↓kd1,↓kd2,hv,↓kc_t,↓kd3,↓kc_1,↓kc_2,↓kc_3,↓kd4,hu1,↓kd5,t2,gh,g0',g1,g2,h3,i0,i9,hi,Cp,qT,rK,pE,Tryz.f73]
  by_cases hu2:u=2
  ·obtain⟨nx5,ac5,q5,hb5,_,d2,d3,kd5⟩:=aHQ hc (B:=12) om b2 nx2 ac2 hb2 c3 (q1+1+1+1) om om;refine⟨al3,st3,l3,al4,st4,l4,b2,nx5,ac5,q5,by omega,by omega,hb5.mono om,by omega,by omega,fun R L n hq k hn hL=>aS BW rfl (by simp[autD,idsA,idsL]) ?_⟩;unfold autD at kd1 kc_3 kd5|-;clear hb hb2 hb5;obtain _|n:=n;omega
   simp-implicitDefEqProofs (maxSteps:=9^7) (disch:=try exact Dz) only[↓DN,↓kRet,UP,simprocAttr,↓kd1,↓kd2,hv,↓kc_t,↓kd3,↓kc_1,↓kc_2,↓kc_3,↓kd4,hu2,↓kd5,t2,gh,g0',g1,g2,h3,i0,i9,hi,Cp,qT,rK,pE,Tryz.f73]
  ·refine⟨al3,st3,l3,al4,st4,l4,b2,nx2,ac2,q1+1+1+1,by omega,by omega,hb2.mono om,by omega,by omega,fun R L n hq k hn hL=>aS BW rfl (by simp[autD,idsA,idsL]) ?_⟩;unfold autD at kd1 kc_3|-;clear hb hb2;obtain _|n:=n;omega
   simp-implicitDefEqProofs (maxSteps:=9^7) (disch:=try exact Dz) only[↓DN,↓kRet,UP,simprocAttr,↓kd1,↓kd2,hv,↓kc_t,↓kd3,↓kc_1,↓kc_2,↓kc_3,↓kd4,hu0,hu1,hu2,t2,gh,g0',g1,g2,h3,i0,i9,hi,Cp,qT,rK,pE,Tryz.f73]
 ·refine⟨al,st,es,al2,st2,es2,b,nx,ac,q1+1,by omega,by omega,hb.mono om,by omega,by omega,fun R L n hq k hn hL=>aS BW rfl (by simp[autD,idsA,idsL]) ?_⟩;unfold autD at kd1|-;clear hb;obtain _|n:=n;omega
  simp-implicitDefEqProofs (maxSteps:=9^7) (disch:=try exact Dz) only[↓DN,↓kRet,UP,simprocAttr,↓kd1,↓kd2,hv,rK,pE,Tryz.f73]
theorem aJV{R:Type}{L n i j:Nat}{hq:H}{c:List UInt8}{p v:Int}{l:List Int}{k:KA R}(he:aA env L n 74 [.ptr 0 0 0,.sl 1 0 0 l.length] [rdO c p,.arr (ints l) 1 0]=some (nI v,[rdO c (p+1),.arr (ints l) 1 0]))(hi:hq[i]? =some (rdO c p))(hj:hq[j]? =some (.arr (ints l) 1 0))(hij:¬i=j):
  aU env (aA env L n) hq 74 [.ptr i 0 0,.sl j 0 0 l.length] k=k (nI v) (hq.set i (rdO c (p+1))):=by
 have hre:aC aD hq [i,j] []=[i,j]:=by
  have e1:aC aD hq [i,j] []=match hq[i]? with
   |some (.box cs)=>aC (aD-1) hq ([j]++idsL cs) ([]++[i])
   |some (.vec cs _ _)=>aC (aD-1) hq ([j]++idsL cs) ([]++[i])
   |some .void=>aC (aD-1) hq [j] []
   |some _=>aC (aD-1) hq [j] ([]++[i])
   |none=>aC (aD-1) hq [j] []:=rfl
  have e2:aC (aD-1) hq [j] [i]=if [i].contains j=true then aC (aD-2) hq [] [i]else match hq[j]? with
   |some (.box cs)=>aC (aD-2) hq ([]++idsL cs) ([i]++[j])
   |some (.vec cs _ _)=>aC (aD-2) hq ([]++idsL cs) ([i]++[j])
   |some .void=>aC (aD-2) hq [] [i]
   |some _=>aC (aD-2) hq [] ([i]++[j])
   |none=>aC (aD-2) hq [] [i]:=rfl
  have e3:[i].contains j=false:=by simpa using fun h=>hij h.symm
  rw[e1,hi];show aC (aD-1) hq [j] [i]=[i,j]
  rw[e2,e3,hj];rfl
 have hpk:pack hq [i,j]=[rdO c p,.arr (ints l) 1 0]:=by
  simp only[pack,Ag,Ak,Ab,hi,hj]<;>rfl
 have hid:idsL [A.ptr i 0 0,A.sl j 0 0 l.length]=[i,j]:=rfl
 have hma:aE (aH [i,j]) [A.ptr i 0 0,A.sl j 0 0 l.length]=[A.ptr 0 0 0,A.sl 1 0 0 l.length]:=by
  simp[aE,mapA,aH,hij]
 have hc:bJ (aA env L n) env.hint [rdO c p,.arr (ints l) 1 0] 74 [.ptr 0 0 0,.sl 1 0 0 l.length]=some (nI v,[rdO c (p+1),.arr (ints l) 1 0]):=by
  unfold bJ;rw[aNX];exact he
 have hcl:closed hq [i,j] [i,j]=true:=by
  simp only[closed,Bt,Ce,hi,hj];simp[idsL,idsA]
 have h2:(hq.set i (rdO c (p+1)))[j]? =some (.arr (ints l) 1 0):=by rw[Df hij];exact hj
 unfold aU;rw[hid,hre,hpk,hma,hc];simp only[Ac,Aa,Ad,hcl,and_self,if_true,mapA]
 congr 1
 simp only[bA,mapO,aE,mapA,Ak,Ai];exact aLS h2
theorem aH6{c:List UInt8}(hc:c.length<=2000)(l:List Int)(hl:0<l.length)(hl2:l.length<1000)(p:Int)(hp:0<=p)(hp2:p<=1000000000):∃v:Int,v∈l/\(∀ {R:Type} {L n i j:Nat} {hq:H} {k:KA R},2<=n->2^60<=L->hq[i]? =some (rdO c p)->hq[j]? =some (.arr (ints l) 1 0)->¬i=j->aU env (aA env L n) hq 74 [.ptr i 0 0,.sl j 0 0 l.length] k=k (nI v) (hq.set i (rdO c (p+1)))):=by
 obtain⟨v,hv,he⟩:=aLI hc l 0 hl hl2 p hp hp2;exact⟨v,hv,fun hn hL hi hj hij=>aJV (he _ _ hn hL) hi hj hij⟩
theorem QX(c0:List UInt8)(hc0:c0.length<=4294967296):∃(P:List Sys) (b:Aut) (pt:Int),P.length<=4/\SysB 130000 P/\AutB 60 b.nx b.ac/\∀(R:Type) (L n:Nat) (hq:H) (k:KA R),20<=n->2^60<=L->aU env (aA env L n) hq 22 [.d (.ivs c0.length (bE c0))] k=k (.tup [.d (.ivs P.length (sysD P)),autD b.al b.nx b.ac,nI pt]) hq:=by
 have hc:=aO7 c0;generalize hcs:src c0=c at hc;obtain⟨P,al,nx,ac,q,g1,g2,g3,g4,g5,kd1⟩:=aJd hc 0 om om;obtain⟨v,_,_,_,kd2⟩:=bN hc q 3 om om
 by_cases hv:v=0
 ·obtain⟨al1,st1,es1,al2,st2,es2,b2,nx2,ac2,q2,h1,h2,h3,h4,h5,kd3⟩:=aIX hc (q+1) om om;obtain⟨pt,_,kd4⟩:=aH6 hc [0,1,0,1,2,-1] sm sm q2 om om;simp only[ints,Ag,Ak,Ac,Aa,Af,Nat.reduceAdd]at kd4;refine⟨[⟨al1,st1,es1⟩,⟨al2,st2,es2⟩],⟨b2,nx2,ac2⟩,pt,by simp,?_,h3.mono om,fun R L n hq k hn hL=>cW rfl ?_ rfl (.inr rfl)⟩
  ·intro s hs;simp only[Au,Bo,or_false]at hs
   rcases hs with rfl|rfl
   ·exact h1
   ·exact h2
  have kd_a:=fun {R:Type} {hq:H} {k:KA R} {i:Nat} {L n:Nat}=> @S0 L n _ _ _ _ _ _ _ rfl rfl kd1 R hq k i;have kd_b:=fun {R:Type} {hq:H} {k:KA R} {i:Nat} {L n:Nat}=> @S0 L n _ _ _ _ _ _ _ rfl rfl kd2 R hq k i;have kd_c:=fun {R:Type} {hq:H} {k:KA R} {i:Nat} {L n:Nat}=> @S0 L n _ _ _ _ _ _ _ rfl rfl kd3 R hq k i;clear kd1 kd2 kd3;unfold autD at kd_a kd_c|-;clear g2 g3 h3;simp only[sysD,Ac,Aa];obtain _|n:=n;omega
  simp-implicitDefEqProofs (maxSteps:=9^7) (disch:=try exact Dz) only[↓DN,↓kAsg,↓kRet,UP,simprocAttr,↓aEI,hcs,↓kd_a,↓kd_b,hv,↓kd_c,↓kd4,x7,pV,Tryz.f22]
 ·obtain⟨pt,_,kd4⟩:=aH6 hc [0,1,0,1,2,-1] sm sm (q+1) om om;simp only[ints,Ag,Ak,Ac,Aa,Af,Nat.reduceAdd]at kd4;refine⟨P,⟨al,nx,ac⟩,pt,g1,fun s hs=>Bf (g2 s hs) om,g3,fun R L n hq k hn hL=>cW rfl ?_ rfl (.inr rfl)⟩;have kd_a:=fun {R:Type} {hq:H} {k:KA R} {i:Nat} {L n:Nat}=> @S0 L n _ _ _ _ _ _ _ rfl rfl kd1 R hq k i;have kd_b:=fun {R:Type} {hq:H} {k:KA R} {i:Nat} {L n:Nat}=> @S0 L n _ _ _ _ _ _ _ rfl rfl kd2 R hq k i;clear kd1 kd2;unfold autD at kd_a|-;clear g2 g3;obtain _|n:=n;omega
  simp-implicitDefEqProofs (maxSteps:=9^7) (disch:=try exact Dz) only[↓DN,↓kAsg,↓kRet,UP,simprocAttr,↓aEI,hcs,↓kd_a,↓kd_b,hv,↓kd4,x7,pV,Tryz.f22]
theorem aO6{P:List Sys}{b:Aut}{pt:Int}(h:D6 P b pt=false):repG P b pt=[]:=by
 unfold repG;rw[if_neg (by rw[h];decide)]
theorem aOj{P:List Sys}{b:Aut}{pt:Nat}(hv:bR P=true)(hpt:pt<P.length):repG P b pt=repF P b pt 0 (P.getD pt default).es.length:=by
 unfold repG D6
 cases ha:iT b.al b.nx b.ac with
 |true=>
  have h0:(0:Int)<=pt:=om;have h1:(pt:Int)<P.length:=om;rw[hv];simp only[h0,h1,decide_true,Bm,if_true,Cd]
 |false=>
  simp only[Ca,Bn,Aj,if_false]
  have:∀j i,repF P b pt i j=[]:=by
   intro j
   induction j with
   |zero=>intro i;rfl
   |succ j ih=>
    intro i;rw[NV (by unfold sD;rw[ha];simp)];exact ih _
  exact(this _ _).symm
theorem SH{R:Type}{L n:Nat}(hn:20<=n)(hL:2^60<=L){P:List Sys}{b:Aut}(hP:cP P)(hv:bR P=true)(sb:bD b.nx)(hac:b.ac.length<=4294967296){pt:Nat}(hpt:pt<P.length){E:List Edge}(hEl:E.length<=4294967296){k:KE R}:∀(j i m q:Nat) (hi:i+j=(P.getD pt default).es.length) (hm:j<m) (hE:E.drop q=repF P b pt i j) (hq:q<=E.length),
  aV env (aA env L n) L 0 [] Bz32 (u9 0) (U2 (Z4 (Z2 (Z1 (U32 (U32 (U32 (U8 (U4 (U2 (U1 ([])))))))))))) m (Y2 (.d (.bool false)::.d (.ivs P.length (sysD P))::.ptr 0 0 0::nI pt::.d (.ivs E.length (aJ E))::nI q::nI i::Y32 (Y32 (Y32 (Y8 (Y4 (Y2 (Y1 ([]))))))))) [.box [nI b.al,.d (.ivs b.nx.length (aN b.nx)),.d (.ivs b.ac.length (aK b.ac))]] k
  =k (.exit 0) (Y2 (.d (.bool false)::.d (.ivs P.length (sysD P))::.ptr 0 0 0::nI pt::.d (.ivs E.length (aJ E))::nI (E.length)::nI ((P.getD pt default).es.length)::Y32 (Y32 (Y32 (Y8 (Y4 (Y2 (Y1 ([]))))))))) [.box [nI b.al,.d (.ivs b.nx.length (aN b.nx)),.d (.ivs b.ac.length (aK b.ac))]]:=by
 have hP1:=hP.1;obtain⟨h3,_,hvs⟩:=eT hv;have hes:=xE hP hpt;have hptc:(pt:Int)<P.length:=om;have hpt0:(0:Int)<=pt:=om;have g:=mY hpt;have g2:=aAc hpt;have hso:=hvs _ (GL hpt);intro j
 induction j with
 |zero=>
  intro i m q hi hm hE hq;obtain _|m:=m;omega;obtain rfl:i=(P.getD pt default).es.length:=om;rw[QD,List.drop_eq_nil_iff]at hE;obtain rfl:q=E.length:=om
  simp-implicitDefEqProofs (maxSteps:=9^7) (disch:=try exact Dz) only[↓DN,↓kRet,UP,simprocAttr,NE,Ba,Bg,hptc,hpt0,g2,Al,oH,mO,Tryz.f5]
 |succ j ih=>
  intro i m q hi hm hE hq;obtain _|m:=m;omega;have hk:i<(P.getD pt default).es.length:=om;have hc:(i:Int)<(P.getD pt default).es.length:=om;have hi0:(0:Int)<=i:=om;have hQ:=aBL hP pt i;have hQl:=S5 (P:=P) (pt:=pt) (k:=i);have hst:=@EE P pt (P.getD pt default).al (P.getD pt default).st ((P.getD pt default).es.take i++(P.getD pt default).es.drop (i+1)) hpt;have eQ:P.set pt ⟨(P.getD pt default).al,(P.getD pt default).st,(P.getD pt default).es.take i++(P.getD pt default).es.drop (i+1)⟩=dU P pt i:=rfl;rw[eQ]at hst;have hg:=aFl (GY hso) hk;have kc_d:=fun {R n hq k} hn=> @JE R L n hq k hn (P.getD pt default).al (P.getD pt default).st ((P.getD pt default).es.getD i default).fr ((P.getD pt default).es.getD i default).lt ((P.getD pt default).es.getD i default).to (P.getD pt default).es hes hL hso hg.1;have hb:bsE (P.getD pt default).es ⟨((P.getD pt default).es.getD i default).fr,((P.getD pt default).es.getD i default).lt,((P.getD pt default).es.getD i default).to⟩=i:=hg.2;rw[hb]at kc_d;generalize(P.getD pt default).es.take i++(P.getD pt default).es.drop (i+1)=w at kc_d hst;have hQd:(sysD (dU P pt i)).length=P.length*3:=by rw[kK,hQl]
  have kl_b:=@K7 L (dU P pt i) b hQ sb hac hL;have kv_l:=fun {R:Type} {n:Nat} {hq:H} {args:List A} {k:KA R}=>d7 (E:=env) (call:=aA env L n) (h:=hq) (k:=k) (args:=args) oK;have htk:(sysD (dU P pt i)).take (P.length*3)=sysD (dU P pt i):=qM om;rw[hQl]at kl_b
  cases hg2:sD (dU P pt i) b with
  |true=>
   rw[hg2]at kl_b;rw[WQ hg2]at hE
   have hq2:q<E.length:=by
    by_cases h:q<E.length
    ·exact h
    ·rw[List.drop_eq_nil_of_le om]at hE;cases hE
   rw[bM hq2 (d:=default)]at hE;injection hE with hE1 hE2;have hqc:¬(E.length:Int)<=q:=om;have hqc2:(q:Int)<E.length:=om;have hq0:(0:Int)<=q:=om;have ih':=ih (i+1) m (q+1) om om hE2 om;rw[cs1 i,cs1 q]at ih';clear ih hP hQ hv hvs hso hg hb eQ hE2;generalize dU P pt i=Q at *
   simp-implicitDefEqProofs (maxSteps:=9^7) (disch:=try exact Dz) only[↓DN,↓kRet,UP,simprocAttr,NE,LE,aCD,hE1,Aw,Ba,Bg,hptc,hpt0,hc,hi0,hqc,hqc2,hq0,g,g2,↓kc_d,hst,htk,hQd,Ad,↓kv_l,↓kl_b,↓ih',oH,mO,Tryz.f5]
  |false=>
   rw[hg2]at kl_b;rw[NV hg2]at hE;have ih':=ih (i+1) m q om om hE hq;rw[cs1 i]at ih';clear ih hP hQ hv hvs hso hg hb eQ hE;generalize dU P pt i=Q at *
   simp-implicitDefEqProofs (maxSteps:=9^7) (disch:=try exact Dz) only[↓DN,↓kRet,UP,simprocAttr,NE,LE,Aw,Ba,Bg,hptc,hpt0,hc,hi0,g,g2,↓kc_d,hst,htk,hQd,Ad,↓kv_l,↓kl_b,↓ih',oH,mO,Tryz.f5]
theorem X9{L n:Nat}(hn:30<=n)(c:List UInt8)(hL:2^60<=L):aA env L n 5 [.d (.ivs c.length (bE c))] []=some (.d (.bool true),[]):=by
 by_cases hsz:(1048576:Int)<c.length
 ·obtain _|n:=n;omega
  simp-implicitDefEqProofs (maxSteps:=9^7) (disch:=try exact Dz) only[↓DN,↓kAsg,↓kRet,UP,simprocAttr,hsz,kT,jX,Tryz.f5]
 ·obtain⟨P,b,pt,hl,hs,hb,kd⟩:=QX c om;have hP:cP P:=⟨by omega,fun s h=>by have:=hs s h;omega⟩
  have hP1:=hP.1;have sb:=hb.short om;have hac:b.ac.length<=4294967296:=by have:=hb.a;omega
  have kc_i:=@X2 L P b pt hP sb hac hL;have kc_s:=@XQ L P b pt hP sb hac hL;have kc_p:=@BZ L P hP hL;have kc_a:=@Z5 L [] sm hL;simp only[Aa,cV]at kc_a;unfold autD at kd;unfold repD at kc_i kc_s
  have no:∀h:D6 P b pt=false,(∀ {R:Type} {n:Nat} {hq:H} {k:KA R},18<=n->aU env (aA env L n) hq 14 [.d (.ivs P.length (sysD P)),.agg [nI b.al,.d (.ivs b.nx.length (aN b.nx)),.d (.ivs b.ac.length (aK b.ac))],nI pt] k=k (.d (.ivs 0 [])) hq)/\(∀ {R:Type} {n:Nat} {hq:H} {k:KA R},15<=n->aU env (aA env L n) hq 11 [.d (.ivs P.length (sysD P)),.agg [nI b.al,.d (.ivs b.nx.length (aN b.nx)),.d (.ivs b.ac.length (aK b.ac))],nI pt] k=k (.d (.ivs 0 [])) hq):=by
   intro h;rw[aO6 h]at kc_i kc_s;exact⟨fun hn=>kc_i _ _ _ _ hn,fun hn=>kc_s _ _ _ _ hn⟩
  cases hv:bR P with
  |false=>
   obtain⟨kc_1,kc_2⟩:=no (by unfold D6;rw[hv];rfl);rw[hv]at kc_p;simp only[Aj,if_false]at kc_p;clear kc_i kc_s no;obtain _|n:=n;omega
   simp-implicitDefEqProofs (maxSteps:=9^7) (disch:=try exact Dz) only[↓DN,↓kAsg,↓kRet,UP,simprocAttr,hsz,↓kd,↓kc_1,↓kc_2,↓kc_p,↓kc_a,kT,jX,Tryz.f5]
  |true=>
   obtain⟨r0,r1⟩:=GG hv;have r2:¬parA P<0:=om;rw[hv]at kc_p;simp only[if_true]at kc_p
   by_cases h0:pt<0
   ·obtain⟨kc_1,kc_2⟩:=no (by unfold D6;rw[decide_eq_false (by omega:¬0<=pt)];simp);clear kc_i kc_s no;obtain _|n:=n;omega
    simp-implicitDefEqProofs (maxSteps:=9^7) (disch:=try exact Dz) only[↓DN,↓kAsg,↓kRet,UP,simprocAttr,hsz,↓kd,↓kc_1,↓kc_2,↓kc_p,↓kc_a,r2,h0,kT,jX,Tryz.f5]
   by_cases h1:(P.length:Int)<=pt
   ·obtain⟨kc_1,kc_2⟩:=no (by unfold D6;rw[decide_eq_false (by omega:¬pt<P.length)];simp);clear kc_i kc_s no;obtain _|n:=n;omega
    simp-implicitDefEqProofs (maxSteps:=9^7) (disch:=try exact Dz) only[↓DN,↓kAsg,↓kRet,UP,simprocAttr,hsz,↓kd,↓kc_1,↓kc_2,↓kc_p,↓kc_a,r2,h0,h1,kT,jX,Tryz.f5]
   ·obtain⟨p,rfl⟩:∃p:Nat,pt=p:=⟨pt.toNat,by omega⟩
    have hpt:p<P.length:=om;have hes:=xE hP hpt;have hfl:=WM (P:=P) (b:=b) (pt:=p) (i:=0) (j:=(P.getD p default).es.length);rw[aOj hv hpt]at kc_i kc_s;have loop_a:=fun {R n k} hn=> @SH R L n hn hL P b hP hv sb hac p hpt (repF P b p 0 (P.getD p default).es.length) om k (P.getD p default).es.length 0 L 0 om om Ay om;simp only[Av]at loop_a;clear no;generalize repF P b p 0 (P.getD p default).es.length=w at *;obtain _|n:=n;omega
    simp-implicitDefEqProofs (maxSteps:=9^7) (disch:=try exact Dz) only[↓DN,↓kAsg,↓kRet,UP,simprocAttr,↓Z5,hsz,↓kd,↓kc_i,↓kc_s,↓kc_p,r2,h0,h1,↓loop_a,kT,jX,Tryz.f5]
end Ev
end Go.Proofs.YtahbdkmimmnadaaGreatDoor
