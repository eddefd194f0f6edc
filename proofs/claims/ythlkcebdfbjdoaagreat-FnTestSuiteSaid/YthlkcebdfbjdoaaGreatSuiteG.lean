/-
  Automata with exchanged aB: plain laws.
-/
import Derived.Test.YthlkcebdfbjdoaaGreatAutH
import Derived.Test.YthlkcebdfbjdoaaGreatWords
import Derived.Test.YthlkcebdfbjdoaaGreatDistG
import Derived.Test.YthlkcebdfbjdoaaGreatAccess
import Derived.Test.YthlkcebdfbjdoaaGreatLeast
import Derived.Test.YthlkcebdfbjdoaaGreatSortLayX
import Derived.Test.YthlkcebdfbjdoaaGreatEvDef
import Derived.Test.YthlkcebdfbjdoaaGreatNetX
import Derived.Test.YthlkcebdfbjdoaaGreatDrawR
set_option linter.unusedSimpArgs false
set_option linter.unusedVariables false
set_option maxRecDepth 8000
set_option maxHeartbeats 4000000
namespace Go.Proofs.YthlkcebdfbjdoaaGreat
namespace Ev
theorem aRA{al:Int}{rs:List (List Int)}{ac:List Bool}(ha:kD al=true)(h1:1<=rs.length)(h2:rs.length<=12)(h3:ac.length=rs.length)(hr:∀r∈rs,r.length=(aB al).length/\∀q∈r,0<=q/\q<rs.length):dP al rs ac=true:=by
 unfold dP;simp only[Ar,decide_eq_true_eq];refine⟨⟨⟨⟨ha,by omega⟩,by omega⟩,by omega⟩,?_⟩;rw[Option.isNone_iff_eq_none,sF];intro i _ hi;have hi:i<rs.length:=by omega
 obtain⟨hw,hq⟩:=hr (rs.getD i []) (by rw[Aa,Ae hi];exact Az hi);unfold gK;rw[O8 (by omega)]
 have:seek (badQ rs.length (rs.getD i [])) (rs.getD i []).length 0=none:=by
  rw[sF];intro j _ hj;have hj:j<(rs.getD i []).length:=by omega
  rw[xK];refine hq _ ?_;generalize rs.getD i []=r at *;rw[Aa,Ae hj];exact Az hj
 rw[this];rfl
theorem I4{al:Int}{rs:List (List Int)}{ac:List Bool}(h:dP al rs ac=true){i:Nat}(hi:i<rs.length):(rs.getD i []).length=(aB al).length/\∀j,j<(aB al).length->0<=(rs.getD i []).getD j 0/\(rs.getD i []).getD j 0<rs.length:=by
 have hw:=aEe (x5 h) hi;refine⟨hw,?_⟩;intro j hj;unfold dP at h;simp only[Ar]at h;have hb:=G9 h.2 hi;unfold gK at hb;rw[O8 (by omega)]at hb
 have:=G9 (p:=badQ rs.length (rs.getD i [])) (n:=(rs.getD i []).length) (by cases hs:seek (badQ rs.length (rs.getD i [])) (rs.getD i []).length 0 with
  |none=>rfl
  |some z=>rw[hs]at hb;cases hb) (i:=j) (by omega)
 exact xK.1 this
def stGo(al:Int)(rs:List (List Int))(w:List UInt8)(q:Int):Int:=w.foldl (fun q b=>goI al rs q (ltr b)) q
def O5(al:Int)(rs:List (List Int))(ac:List Bool)(w:List UInt8):Int:=if dP al rs ac&&mA al w then stGo al rs w 0 else -1
section
def goS(a:Aut)(v l:Int):Int:=goI a.al a.nx v l
def rowA(a:Aut)(v:Int):List Int:=a.nx.getD v.toNat []
def ordA(a:Aut):List Int:=ordB (goS a) (aB a.al) (a.nx.length+1) 0 [0]
def idxU(out:List Int)(x:Int):Int:=(out.idxOf x:Nat)
def dK(a:Aut):Aut:=⟨a.al,(ordA a).map fun v=>(rowA a v).map (idxU (ordA a)),(ordA a).map fun v=>a.ac.getD v.toNat false⟩
theorem aKt{a:Aut}(h:AOK a):∀v l:Int,0<=v->v<a.nx.length->l∈aB a.al->0<=goS a v l/\goS a v l<a.nx.length:=by
 intro v l h0 h1 hl;have:=cQ l hl;exact nP h h0 h1 this.1 (by omega)
theorem aM5{al:Int}{k:Nat}(hk:k<(aB al).length):iJ al (aB al)[k]=k:=by
 obtain⟨⟨h0,h1⟩,hb⟩:=gZ.1 (Az hk);obtain⟨h2,h3⟩:=CU h0 h1 hb;rw[Ae h2]at h3;exact(List.getElem_inj (Q9 al)).1 (Option.some.inj h3)
theorem aDi{a:Aut}(h:AOK a){v:Int}(h0:0<=v)(h1:v<a.nx.length):(aB a.al).map (goS a v)=rowA a v:=by
 have hl:=(I4 h (i:=v.toNat) (by omega)).1;apply List.ext_getElem
 ·rw[Ay];exact hl.symm
 ·intro k g1 g2;rw[Ay]at g1;rw[List.getElem_map];unfold goS;rw[WL (gZ.1 (Az g1)).2,aM5 g1];show(rowA a v).getD k 0=_;rw[Aa,Ae g2];rfl
theorem sL{a:Aut}(h:AOK a):∃W,Bfs (goS a) (aB a.al) a.nx.length (ordA a).length [] (ordA a) W:=by
 obtain⟨_,_,h1,_,_⟩:=bQ h;exact aKr (mY _) (aKt h) _ 0 [0] _ (Bfs.start (by omega)) (by omega) (by omega)
theorem aI0{a:Aut}:∀(w:List Int) (v u:Int),Path (nxS a) (aB a.al) v w u↔(∀l∈w,l∈aB a.al)/\w.foldl (goS a) v=u
 | [],v,u=>by simp[Path]
 |l::w,v,u=>by
  simp only[Path,nxS,Bk,exists_eq_left,aI0 w,List.foldl_cons,List.forall_mem_cons];unfold goS;exact and_assoc.symm
theorem G4{a:Aut}{st:Int}{w:List Int}:Hits (nxS a) (aB a.al) [0] (glS st) w↔(∀l∈w,l∈aB a.al)/\w.foldl (goS a) 0=st:=by
 unfold Hits tH glS;simp only[Bk,exists_eq_left,aI0,decide_eq_true_eq]
 constructor
 ·rintro⟨u,⟨h1,h2⟩,rfl⟩;exact⟨h1,h2⟩
 ·rintro⟨h1,h2⟩;exact⟨st,⟨h1,h2⟩,rfl⟩
section
variable{a:Aut}{W:Nat->List Int}
theorem AQ{x:Int}{out:List Int}(hx:x∈out):out.getD (out.idxOf x) 0=x/\out.idxOf x<out.length:=by
 have h:=List.idxOf_lt_length_of_mem hx;refine⟨?_,h⟩;rw[Aa,Ae h,List.getElem_idxOf];rfl
theorem sZ{q:Nat}{out:List Int}(hq:q<out.length):out.getD q 0∈out:=by
 rw[Aa,Ae hq];exact Az hq
theorem GW(h:AOK a)(hB:Bfs (goS a) (aB a.al) a.nx.length (ordA a).length [] (ordA a) W){q:Nat}(hq:q<(ordA a).length):oneG a ((ordA a).getD q 0)=(W q,true):=by
 refine rY (F8 h _) (.inl ⟨rfl,G4.2 ⟨hB.lts q hq,hB.run q hq⟩,fun x hx=> ?_⟩);obtain⟨h1,h2⟩:=G4.1 hx;obtain⟨p,hp,e,hs⟩:=hB.least x.length x rfl h1;have:p=q:=hB.idx hp hq (by rw[e,h2]);subst this;exact hs
theorem aRC(h:AOK a){st:Int}(ho:st∉ordA a):oneG a st=([],false):=by
 obtain⟨W,hB⟩:=sL h;refine rY (F8 h _) (.inr ⟨rfl,fun w hw=> ?_⟩);obtain⟨h1,h2⟩:=G4.1 hw;obtain⟨p,hp,e,_⟩:=hB.least w.length w rfl h1;rw[h2]at e;exact ho (e▸sZ hp)
theorem O2(hB:Bfs (goS a) (aB a.al) a.nx.length (ordA a).length [] (ordA a) W){v l:Int}(hv:v∈ordA a)(hl:l∈aB a.al):goS a v l∈ordA a:=by
 obtain⟨e,hq⟩:=AQ hv;obtain⟨p,hp,e2,_⟩:=hB.clo _ l hq hl (.inl hq);rw[e]at e2;exact e2▸sZ hp
theorem ZN(h:AOK a):AOK (dK a):=by
 obtain⟨W,hB⟩:=sL h;obtain⟨b1,b2,b3,b4⟩:=kX h;have hn:=jD hB.nod hB.rng;have hp:=hB.pos;unfold AOK dK;refine aRA b4 (by rw[Ay];omega) (by rw[Ay];omega) (by rw[Ay,Ay]) ?_;intro r hr;obtain⟨v,hv,rfl⟩:=Bq.1 hr;obtain⟨v0,v1⟩:=hB.rng v hv;have hrow:=aDi h v0 v1;refine⟨by rw[Ay,<-hrow,Ay],?_⟩;intro q hq;obtain⟨x,hx,rfl⟩:=Bq.1 hq;rw[<-hrow]at hx;obtain⟨l,hl,rfl⟩:=Bq.1 hx;have:=(AQ (O2 hB hv hl)).2;unfold idxU;rw[Ay];omega
theorem aT9(h:AOK a)(hB:Bfs (goS a) (aB a.al) a.nx.length (ordA a).length [] (ordA a) W){q:Nat}(hq:q<(ordA a).length){l:Int}(hl:l∈aB a.al):goS (dK a) q l=idxU (ordA a) (goS a ((ordA a).getD q 0) l):=by
 obtain⟨⟨h0,h1⟩,hb⟩:=gZ.1 hl;obtain⟨v0,v1⟩:=hB.rng _ (sZ hq);obtain⟨p1,p2⟩:=CU h0 h1 hb;have hlen:=(I4 h (i:=((ordA a).getD q 0).toNat) (by omega)).1
 have e1:((dK a).nx.getD q [])=(rowA a ((ordA a).getD q 0)).map (idxU (ordA a)):=by
  unfold dK;simp only[Aa,Bd,Ae hq,Ax,Bb]
 unfold goS;rw[WL hb,WL (show eL (dK a).al l=true from hb),Cw,e1];show((rowA a ((ordA a).getD q 0)).map (idxU (ordA a))).getD (iJ a.al l) 0=_;have hr:iJ a.al l<(rowA a ((ordA a).getD q 0)).length:=by unfold rowA;omega
 rw[Aa,Bd,Ae hr,Aa (l:=a.nx.getD _ _)];show idxU _ (rowA a ((ordA a).getD q 0))[iJ a.al l]=idxU _ ((rowA a ((ordA a).getD q 0))[iJ a.al l]?.getD 0);rw[Ae hr];rfl
theorem aIi(h:AOK a)(hB:Bfs (goS a) (aB a.al) a.nx.length (ordA a).length [] (ordA a) W):∀(w:List Int) (q:Nat),q<(ordA a).length->(∀l∈w,l∈aB a.al)->w.foldl (goS a) ((ordA a).getD q 0)∈ordA a/\w.foldl (goS (dK a)) (q:Int)=idxU (ordA a) (w.foldl (goS a) ((ordA a).getD q 0))
 | [],q,hq,_=>by
  refine⟨sZ hq,?_⟩;unfold idxU;simp only[List.foldl_nil];have:=hB.nod.idxOf_getElem q hq;rw[Aa,Ae hq,Bb,this]
 |l::w,q,hq,hw=>by
  have hl:=hw l Bi;obtain⟨e,hp⟩:=AQ (O2 hB (sZ hq) hl);have ih:=aIi h hB w _ hp fun m hm=>hw m (Be _ hm);rw[e]at ih;simp only[List.foldl_cons];rw[aT9 h hB hq hl];exact ih
theorem aNl(h:AOK a)(hB:Bfs (goS a) (aB a.al) a.nx.length (ordA a).length [] (ordA a) W){q:Nat}(hq:q<(ordA a).length):oneG (dK a) q=(W q,true):=by
 rw[<-GW h hB hq];refine rY (aCE (fun w=> ?_) (F8 (ZN h) q)) (F8 h _);rw[G4,G4];show(∀l∈w,l∈aB a.al)/\_↔_;refine and_congr_right fun hw=> ?_;obtain⟨h1,h2⟩:=aIi h hB w 0 hB.pos hw;rw[hB.o0]at h1 h2;have h3:w.foldl (goS (dK a)) 0=idxU (ordA a) (w.foldl (goS a) 0):=h2;rw[h3];obtain⟨e,hp⟩:=AQ h1;unfold idxU
 constructor
 ·intro hh;have:(ordA a).idxOf (w.foldl (goS a) 0)=q:=by omega
  rw[this]at e;exact e.symm
 ·intro hh;rw[hB.idx hp hq (by rw[e,hh])]
end
theorem aEn{l:Int}(h0:0<=l)(h1:l<6):(b7 l).toNat=(97+l).toNat:=by
 unfold b7;rw[UInt8.toNat_ofNat'];omega
theorem aK0:∀ {u v:List Int},(∀l∈u,0<=l/\l<6)->(∀l∈v,0<=l/\l<6)->qV u v->Op.bytesLess (txt u) (txt v)=true
 | [],_,_,_,h=>h.elim
 |_::_,[],_,_,h=>h.elim
 |a::u,b::v,hu,hv,h=>by
  have ha:=hu a Bi;have hb:=hv b Bi;show Op.bytesLess (b7 a::txt u) (b7 b::txt v)=true;rw[nS,aEn ha.1 ha.2,aEn hb.1 hb.2]
  rcases h with h|⟨rfl,h⟩
  ·exact .inl (by omega)
  ·exact .inr ⟨rfl,aK0 (fun l hl=>hu l (Be _ hl)) (fun l hl=>hv l (Be _ hl)) h⟩
theorem aT1{u v:List Int}(hu:∀l∈u,0<=l/\l<6)(hv:∀l∈v,0<=l/\l<6)(h:slt u v):cmpX (txt u) (txt v)<0:=by
 rw[AZ];unfold txt;rw[Ay,Ay]
 rcases h with h|⟨h1,h⟩
 ·exact .inl h
 ·exact .inr ⟨h1,aK0 hu hv h⟩
def cH(a:Aut):List Str:=(List.range (ordA a).length).map fun q=>txt (oneG a ((ordA a).getD q 0)).1
def iB(a:Aut)(j i:Nat):List Str:=(List.range' i j).filterMap fun q=>if(oneG a (q:Nat)).2=true then some (txt (oneG a (q:Nat)).1)else none
def aBj(l:List Str):List Str:=l.mergeSort leX
section
variable{a:Aut}{W:Nat->List Int}
theorem CJ(h:AOK a)(hB:Bfs (goS a) (aB a.al) a.nx.length (ordA a).length [] (ordA a) W):cH a=(List.range (ordA a).length).map fun q=>txt (W q):=by
 unfold cH;apply List.map_congr_left;intro q hq;rw[GW h hB (Ci.1 hq)]
theorem V6(hB:Bfs (goS a) (aB a.al) a.nx.length (ordA a).length [] (ordA a) W){j k:Nat}(hjk:j<k)(hk:k<(ordA a).length):cmpX (txt (W j)) (txt (W k))<0:=by
 have hin:∀q,q<(ordA a).length->∀l∈W q,0<=l/\l<6:=fun q hq l hl=>by
  have:=cQ l (hB.lts q hq l hl);omega
 exact aT1 (hin j (by omega)) (hin k hk) (hB.asc j k hjk hk)
theorem aQ3(hB:Bfs (goS a) (aB a.al) a.nx.length (ordA a).length [] (ordA a) W){j k:Nat}(hj:j<(ordA a).length)(hk:k<(ordA a).length)(e:txt (W j)=txt (W k)):j=k:=by
 rcases Dc j k with h|h|h
 ·have:=V6 hB h hk;rw[e]at this;exact(FY _ this).elim
 ·exact h
 ·have:=V6 hB h hj;rw[e]at this;exact(FY _ this).elim
theorem aP4(hB:Bfs (goS a) (aB a.al) a.nx.length (ordA a).length [] (ordA a) W):((List.range (ordA a).length).map fun q=>txt (W q)).Pairwise fun x y=>cmpX x y<0:=by
 rw[List.pairwise_map];refine List.Pairwise.imp_of_mem ?_ (List.pairwise_lt_range (n:=(ordA a).length));intro j k hj hk hjk;exact V6 hB hjk (Ci.1 hk)
theorem aMa(h:AOK a):aBj (iB a a.nx.length 0)=cH a:=by
 obtain⟨W,hB⟩:=sL h;rw[CJ h hB];have hasc:=aP4 hB
 have hfd:∀(q:Nat) (b:Str),(if(oneG a (q:Nat)).2=true then some (txt (oneG a (q:Nat)).1)else none)=some b->∃p,p<(ordA a).length/\(ordA a).getD p 0=(q:Int)/\b=txt (W p):=by
  intro q b hb
  by_cases hq:(q:Int)∈ordA a
  ·obtain⟨e,hp⟩:=AQ hq;have:=GW h hB hp;rw[e]at this;rw[this]at hb;simp at hb;exact⟨_,hp,e,hb.symm⟩
  ·rw[aRC h hq]at hb;simp at hb
 unfold aBj;refine((List.mergeSort_perm _ _).trans ((List.perm_ext_iff_of_nodup ?_ ?_).2 ?_)).eq_of_pairwise (fun x y _ _ h1 h2=>ZX h1 h2) (List.pairwise_mergeSort LI LE _) (hasc.imp aN7)
 ·unfold iB;refine List.Pairwise.filterMap _ ?_ (List.nodup_range' (s:=0) (n:=a.nx.length));intro p q hpq b hb c hc e;obtain⟨p1,g1,g2,g3⟩:=hfd p b hb;obtain⟨q1,k1,k2,k3⟩:=hfd q c hc;have:=aQ3 hB g1 k1 (by rw[<-g3,<-k3,e]);subst this;rw[g2]at k2;exact hpq (by omega)
 ·exact hasc.imp fun {x y} hxy e=>by rw[e]at hxy;exact FY _ hxy
 ·intro b;unfold iB;rw[List.mem_filterMap,Bq]
  constructor
  ·rintro⟨q,hq,hb⟩;obtain⟨p,h1,_,h3⟩:=hfd q b hb;exact⟨p,Ci.2 h1,h3.symm⟩
  ·rintro⟨p,hp,rfl⟩;have hp:=Ci.1 hp;obtain⟨v0,v1⟩:=hB.rng _ (sZ hp);refine⟨((ordA a).getD p 0).toNat,?_,?_⟩
   ·rw[Cu];omega
   ·rw[Cv v0,GW h hB hp,if_pos rfl]
end
end
theorem wG{n:Nat}{W:Nat->List Int}{i:Nat}(hi:i<n):((List.range n).map fun q=>txt (W q)).getD i []=txt (W i):=by
 rw[Aa,Bd,List.getElem?_range hi];rfl
theorem aH2{a:Aut}{W:Nat->List Int}(hB:Bfs (goS a) (aB a.al) a.nx.length (ordA a).length [] (ordA a) W):∀(c i:Nat),i<=c->i<(ordA a).length->(W i).length<=i:=by
 intro c
 induction c with
 |zero=>
  intro i hi _;obtain rfl:i=0:=by omega
  rw[hB.w0];simp
 |succ c ih=>
  intro i hi hl
  rcases Cs i with rfl|h0
  ·rw[hB.w0];simp
  ·obtain⟨p,l,hp,_,e,_⟩:=hB.pre i h0 hl;have:=ih p (by omega) (by omega);rw[e,Af]
   simp;omega
theorem aDX{al:Int}(ha:kD al=true){w:List Int}(hw:∀l∈w,l∈aB al)(hl:w.length<=50000):mA al (txt w)=true/\cX (txt w)=true:=by
 have key:∀b∈txt w,okB b=true/\eL al (ltr b)=true:=by
  intro b hb;obtain⟨l,hlm,rfl⟩:=Bq.1 hb;have hb:=cQ l (hw l hlm);have h2:=(gZ.1 (hw l hlm)).2;unfold okB;rw[RX hb.1 hb.2,h2];simp[qM];omega
 have hlen:(txt w).length=w.length:=by unfold txt;rw[Ay]
 constructor
 ·unfold mA;simp only[Ar,decide_eq_true_eq,Bf];refine⟨⟨ha,by omega⟩,fun b hb=> ?_⟩;unfold inB;rw[(key b hb).1,(key b hb).2];rfl
 ·unfold cX;simp only[Ar,decide_eq_true_eq,Bf];exact⟨by omega,fun b hb=>(key b hb).1⟩
theorem aIj{a:Aut}:∀(w:List Int) (q:Int),(∀l∈w,l∈aB a.al)->stGo a.al a.nx (txt w) q=w.foldl (goS a) q
 | [],_,_=>rfl
 |l::w,q,h=>by
  have hb:=cQ l (h l Bi);show stGo a.al a.nx (txt w) (goI a.al a.nx q (ltr (b7 l)))=_;rw[RX hb.1 hb.2,aIj w _ fun m hm=>h m (Be _ hm)];rfl
structure CovOK(a:Aut)(l:List Str):Prop where
 len:l.length=(dK a).nx.length
 pos:0<l.length
 big:l.length<=12
 first:l.getD 0 []=[]
 acc:∀i,i<l.length->∃u,txt u=l.getD i []/\accG a (O5 a.al a.nx a.ac (l.getD i []))=(u,true)
 ok:∀i,i<l.length->cX (l.getD i [])=true
 short:∀i,i<l.length->(l.getD i []).length<=4294967295
 asc:∀i,i+1<l.length->cmpX (l.getD i []) (l.getD (i+1) [])<0
theorem aRf{a:Aut}(h:AOK a):CovOK a (cH a):=by
 obtain⟨W,hB⟩:=sL h;obtain⟨a1,a2,a3,ha⟩:=kX h;have hn:=jD hB.nod hB.rng;have hp:=hB.pos;rw[CJ h hB];have hl:((List.range (ordA a).length).map fun q=>txt (W q)).length=(ordA a).length:=by rw[Ay,List.length_range]
 have hw:∀i,i<(ordA a).length->(W i).length<=12:=fun i hi=>by have:=aH2 hB i i (Ab _) hi;omega
 refine⟨?_,by omega,by omega,?_,?_,?_,?_,?_⟩
 ·rw[hl];exact(Ay _).symm
 ·rw[wG hp,hB.w0];rfl
 ·intro i hi;rw[hl]at hi;rw[wG hi];refine⟨W i,rfl,?_⟩
  have hst:O5 a.al a.nx a.ac (txt (W i))=(ordA a).getD i 0:=by
   unfold O5;have:=(aDX ha (hB.lts i hi) (by have:=hw i hi;omega)).1;rw[show dP a.al a.nx a.ac=true from h,this,aIj _ _ (hB.lts i hi),hB.run i hi];rfl
  rw[hst];unfold accG;rw[if_pos (show dP a.al a.nx a.ac=true from h),GW h hB hi]
 ·intro i hi;rw[hl]at hi;rw[wG hi];exact(aDX ha (hB.lts i hi) (by have:=hw i hi;omega)).2
 ·intro i hi;rw[hl]at hi;rw[wG hi];have:=hw i hi;unfold txt;rw[Ay];omega
 ·intro i hi;rw[hl]at hi;rw[wG (by omega),wG hi];exact V6 hB (by omega) hi
section
variable{R:Type}{L n:Nat}
def sepJ(a:Aut)(i:Int):Nat->Nat->List Str->List Str
 |0,_,o=>o
 |q+1,j,o=>if(j4 a i j).2=true/\txt (j4 a i j).1∉o then sepJ a i q (j+1) (o++[txt (j4 a i j).1])else sepJ a i q (j+1) o
def sepA(a:Aut):Nat->Nat->List Str->List Str
 |0,_,o=>o
 |q+1,i,o=>sepA a q (i+1) (sepJ a i (a.nx.length-(i+1)) (i+1) o)
def sepW(a:Aut):List Str:=sepA a a.nx.length 0 [[]]
theorem GP{a:Aut}{i:Int}:∀(q j:Nat) (o:List Str),o.length<=(sepJ a i q j o).length/\(sepJ a i q j o).length<=o.length+q
 |0,_,o=>⟨Ab _,Ab _⟩
 |q+1,j,o=>by
  unfold sepJ
  split
  ·have:=GP (a:=a) (i:=i) q (j+1) (o++[txt (j4 a i j).1]);simp at this|-;omega
  ·have:=GP (a:=a) (i:=i) q (j+1) o;omega
theorem aHT{a:Aut}:∀(q i:Nat) (o:List Str),o.length<=(sepA a q i o).length/\(sepA a q i o).length<=o.length+q*a.nx.length
 |0,_,o=>by simp[sepA]
 |q+1,i,o=>by
  unfold sepA;have h1:=GP (a:=a) (i:=i) (a.nx.length-(i+1)) (i+1) o;have h2:=aHT (a:=a) q (i+1) (sepJ a i (a.nx.length-(i+1)) (i+1) o);rw[Nat.succ_mul];omega
theorem OO{a:Aut}(h:AOK a):1<=(sepW a).length/\(sepW a).length<=145:=by
 obtain⟨_,_,h1,h2,_⟩:=bQ h;have:=aHT (a:=a) a.nx.length 0 [[]];have hm:a.nx.length*a.nx.length<=12*12:=Nat.mul_le_mul h2 h2;unfold sepW;simp only[Ad,Ac]at this;omega
theorem GL(hn:12<=n)(hL:2^60<=L){a:Aut}(ha:AOK a){i:Nat}(hi:i<a.nx.length){k:KE R}:∀(q j m:Nat) (o:List Str) (len:Nat) (hq:j+q=a.nx.length) (hm:q<m) (hlen:len=o.length) (ho:o.length+q<=100000),
  aM env (aA env L n) L 0 [] Bz33 (cZ 1) (U1 (Z4 (Z1 (U32 (U8 (U1 ([]))))))) m (Y1 (.ptr 0 0 0::.d .nils::.sl 1 0 0 len::nI i::nI j::Y32 (Y8 (Y1 ([]))))) [.box [nI a.al,.d (.ivs a.nx.length (aN a.nx)),.d (.ivs a.ac.length (aJ a.ac))],.arr (aL o) 1 0] k
  =k (.exit 2) (Y1 (.ptr 0 0 0::.d .nils::.sl 1 0 0 (sepJ a i q j o).length::nI i::nI (a.nx.length)::Y32 (Y8 (Y1 ([]))))) [.box [nI a.al,.d (.ivs a.nx.length (aN a.nx)),.d (.ivs a.ac.length (aJ a.ac))],.arr (aL (sepJ a i q j o)) 1 0]:=by
 obtain⟨sa,wa,a1,a2,a3⟩:=bQ ha;have hac:a.ac.length<=4294967296:=by omega
 intro q
 induction q with
 |zero=>
  intro j m o len hq hm hlen ho;obtain _|m:=m;omega;obtain rfl:j=a.nx.length:=by omega
  subst hlen;simp -implicitDefEqProofs (maxSteps:=2000000) (disch:=try exact Dz) only[↓DN,↓kRet,UP,simprocAttr,Aj,iL,gO,Tryz.f37];rfl
 |succ q ih=>
  intro j m o len hq hm hlen ho;obtain _|m:=m;omega;subst hlen;have hc:(j:Int)<a.nx.length:=by omega
  have kc_s:=@aAR L a i j sa hac hL;have hal:=sa.1;simp only[sepJ];generalize j4 a i j=r at *;obtain⟨w,b⟩:=r;simp only at kc_s|-;have kl_i:=@aLp L o (txt w) (by omega) hL
  cases b with
  |false=>
   have ih':=ih (j+1) m o o.length (by omega) (by omega) rfl (by omega);rw[cs1 j]at ih';rw[if_neg fun h=>by cases h.1];clear ih;simp -implicitDefEqProofs (maxSteps:=2000000) (disch:=try exact Dz) only[↓DN,↓kRet,UP,simprocAttr,hc,↓kc_s,↓ih',iL,gO,Tryz.f37]
  |true=>
   by_cases h:txt w∈o
   ·have ih':=ih (j+1) m o o.length (by omega) (by omega) rfl (by omega);rw[cs1 j]at ih';rw[if_neg fun h2=>h2.2 h];rw[decide_eq_true h]at kl_i;clear ih;simp -implicitDefEqProofs (maxSteps:=2000000) (disch:=try exact Dz) only[↓DN,↓kRet,UP,simprocAttr,↓SI,SE,hc,↓kc_s,↓kl_i,↓ih',iL,gO,Tryz.f37]
   ·have ih':=ih (j+1) m (o++[txt w]) (o.length+1) (by omega) (by omega) (by simp) (by simp;omega);rw[cs1 j]at ih';rw[if_pos ⟨rfl,h⟩];rw[decide_eq_false h]at kl_i;clear ih;simp -implicitDefEqProofs (maxSteps:=2000000) (disch:=try exact Dz) only[↓DN,↓kRet,UP,simprocAttr,↓SI,SE,hc,↓kc_s,↓kl_i,mK,↓ih',iL,gO,Tryz.f37]
theorem IL(hn:12<=n)(hL:2^60<=L){a:Aut}(ha:AOK a){k:KE R}:∀(q i m:Nat) (o:List Str) (len:Nat) (hq:i+q=a.nx.length) (hm:q<m) (hlen:len=o.length) (ho:o.length+q*12<=10000),
  aM env (aA env L n) L 0 [] Bz33 (cZ 0) (U1 (Z4 (U32 (U8 (U2 ([])))))) m (Y1 (.ptr 0 0 0::.d .nils::.sl 1 0 0 len::nI i::Y32 (Y8 (Y2 ([]))))) [.box [nI a.al,.d (.ivs a.nx.length (aN a.nx)),.d (.ivs a.ac.length (aJ a.ac))],.arr (aL o) 1 0] k
  =k (.exit 0) (Y1 (.ptr 0 0 0::.d .nils::.sl 1 0 0 (sepA a q i o).length::nI (a.nx.length)::Y32 (Y8 (Y2 ([]))))) [.box [nI a.al,.d (.ivs a.nx.length (aN a.nx)),.d (.ivs a.ac.length (aJ a.ac))],.arr (aL (sepA a q i o)) 1 0]:=by
 obtain⟨sa,wa,a1,a2,a3⟩:=bQ ha;intro q
 induction q with
 |zero=>
  intro i m o len hq hm hlen ho;obtain _|m:=m;omega;obtain rfl:i=a.nx.length:=by omega
  subst hlen;simp -implicitDefEqProofs (maxSteps:=2000000) (disch:=try exact Dz) only[↓DN,↓kRet,UP,simprocAttr,Aj,sC,nG,Tryz.f37];rfl
 |succ q ih=>
  intro i m o len hq hm hlen ho;obtain _|m:=m;omega;subst hlen;have hc:(i:Int)<a.nx.length:=by omega
  have loop_c:=fun {R n k} hn=> @GL R L n hn hL a ha i (by omega) k (a.nx.length-(i+1)) (i+1) L o o.length (by omega) (by omega) rfl (by omega);rw[cs1 i]at loop_c;have hl:=(GP (a:=a) (i:=i) (a.nx.length-(i+1)) (i+1) o).2;have ih':=ih (i+1) m (sepJ a i (a.nx.length-(i+1)) (i+1) o) _ (by omega) (by omega) rfl (by omega);rw[cs1 i]at ih';simp only[sepA];clear ih;generalize sepJ a i (a.nx.length-(i+1)) (i+1) o=w at *;simp -implicitDefEqProofs (maxSteps:=2000000) (disch:=try exact Dz) only[↓DN,↓kRet,UP,simprocAttr,hc,↓loop_c,↓ih',sC,nG,Tryz.f37]
def sepR(a:Aut):List Str:=if dP a.al a.nx a.ac=true then sepW a else []
theorem yC(hn:13<=n)(a:Aut)(hs:bF a.nx)(hac:a.ac.length<=4294967296)(hL:2^60<=L):aA env L n 37 [.agg [nI a.al,.d (.ivs a.nx.length (aN a.nx)),.d (.ivs a.ac.length (aJ a.ac))]] []=some (.d (.ivs (sepR a).length (aL (sepR a))),[]):=by
 have hrl:=hs.1;unfold sepR
 cases hv:dP a.al a.nx a.ac with
 |false=>
  simp only[Ak,if_false,Ac,kU];obtain _|n:=n;omega;simp -implicitDefEqProofs (maxSteps:=2000000) (disch:=try exact Dz) only[↓DN,↓kAsg,↓kRet,UP,simprocAttr,↓bR,hv,yE,pY,Tryz.f37]
 |true=>
  obtain⟨sa,wa,a1,a2,a3⟩:=bQ hv;have loop_c:=fun {R n k} hn=> @IL R L n hn hL a hv k a.nx.length 0 L [[]] 1 (by omega) (by omega) rfl (by simp;omega);have e:aL [[]]=[.str []]:=rfl;have e2:sepA a a.nx.length 0 [[]]=sepW a:=rfl;rw[e,e2]at loop_c;have hl:=OO hv;simp only[if_true,Aq]at loop_c|-;generalize sepW a=w at *;have e4:(aL w).take w.length=aL w:=iD (Ab _);obtain _|n:=n;omega;simp -implicitDefEqProofs (maxSteps:=2000000) (disch:=try exact Dz) only[↓DN,↓kAsg,↓kRet,UP,simprocAttr,↓bR,SE,hv,e4,↓loop_c,yE,pY,Tryz.f37]
theorem OF:type_of% fun {L} a hs hac hL=>ks fun hn=> @yC L _ hn a hs hac hL:=fun {L} a hs hac hL=>ks fun hn=> @yC L _ hn a hs hac hL
theorem HJ(hn:9<=n)(hL:2^60<=L){a:Aut}(ha:AOK a){i:Nat}(hi:i<a.nx.length){k:KE R}:∀(q j m:Nat) (o:List Str) (len:Nat) (hq:j+q=a.nx.length) (hm:q<m) (hlen:len=o.length) (ho:o.length+q<=100000),
  aM env (aA env L n) L 0 [] Bz16 (c7 1) (U1 (Z4 (Z1 (U8 (Z2 (U16 (U8 (U4 (U2 (U1 ([]))))))))))) m (Y1 (.ptr 0 0 0::.d .nils::.sl 1 0 0 len::nI i::nI j::Y8 (nI (a.nx.length)::nI i::Y16 (Y8 (Y4 (Y2 (Y1 ([])))))))) [.box [nI a.al,.d (.ivs a.nx.length (aN a.nx)),.d (.ivs a.ac.length (aJ a.ac))],.arr (aL o) 1 0] k
  =k (.exit 2) (Y1 (.ptr 0 0 0::.d .nils::.sl 1 0 0 (sepJ a i q j o).length::nI i::nI (a.nx.length)::Y8 (nI (a.nx.length)::nI i::Y16 (Y8 (Y4 (Y2 (Y1 ([])))))))) [.box [nI a.al,.d (.ivs a.nx.length (aN a.nx)),.d (.ivs a.ac.length (aJ a.ac))],.arr (aL (sepJ a i q j o)) 1 0]:=by
 obtain⟨sa,wa,a1,a2,a3⟩:=bQ ha;have hac:a.ac.length<=4294967296:=by omega
 intro q
 induction q with
 |zero=>
  intro j m o len hq hm hlen ho;obtain _|m:=m;omega;obtain rfl:j=a.nx.length:=by omega
  subst hlen;simp -implicitDefEqProofs (maxSteps:=2000000) (disch:=try exact Dz) only[↓DN,↓kRet,UP,simprocAttr,Aj,hZ,gS,Tryz.f15];rfl
 |succ q ih=>
  intro j m o len hq hm hlen ho;obtain _|m:=m;omega;subst hlen;have hc:(j:Int)<a.nx.length:=by omega
  have kc_s:=@Z7 L a i j sa hac hL;have hal:=sa.1;simp only[sepJ];generalize j4 a i j=r at *;obtain⟨w,b⟩:=r;simp only at kc_s|-;have kl_i:=@vQ L o (txt w) (by omega) hL
  cases b with
  |false=>
   have ih':=ih (j+1) m o o.length (by omega) (by omega) rfl (by omega);rw[cs1 j]at ih';rw[if_neg fun h=>by cases h.1];clear ih;simp -implicitDefEqProofs (maxSteps:=2000000) (disch:=try exact Dz) only[↓DN,↓kRet,UP,simprocAttr,hc,↓kc_s,↓ih',hZ,gS,Tryz.f15]
  |true=>
   by_cases h:txt w∈o
   ·have ih':=ih (j+1) m o o.length (by omega) (by omega) rfl (by omega);rw[cs1 j]at ih';rw[if_neg fun h2=>h2.2 h];rw[decide_eq_true h]at kl_i;clear ih;simp -implicitDefEqProofs (maxSteps:=2000000) (disch:=try exact Dz) only[↓DN,↓kRet,UP,simprocAttr,↓kN,SE,hc,↓kc_s,↓kl_i,↓ih',hZ,gS,Tryz.f15]
   ·have ih':=ih (j+1) m (o++[txt w]) (o.length+1) (by omega) (by omega) (by simp) (by simp;omega);rw[cs1 j]at ih';rw[if_pos ⟨rfl,h⟩];rw[decide_eq_false h]at kl_i;clear ih;simp -implicitDefEqProofs (maxSteps:=2000000) (disch:=try exact Dz) only[↓DN,↓kRet,UP,simprocAttr,↓kN,SE,hc,↓kc_s,↓kl_i,mK,↓ih',hZ,gS,Tryz.f15]
theorem IP(hn:9<=n)(hL:2^60<=L){a:Aut}(ha:AOK a){k:KE R}:∀(q i m:Nat) (o:List Str) (len:Nat) (hq:i+q=a.nx.length) (hm:q<m) (hlen:len=o.length) (ho:o.length+q*12<=10000),
  aM env (aA env L n) L 0 [] Bz16 (c7 0) (U1 (Z2 (Z1 (U8 (U2 (Z2 (U16 (U8 (U4 (U2 (U1 ([])))))))))))) m (Y1 (.ptr 0 0 0::.d .nils::.sl 1 0 0 len::Y8 (Y2 (nI (a.nx.length)::nI i::Y16 (Y8 (Y4 (Y2 (Y1 ([]))))))))) [.box [nI a.al,.d (.ivs a.nx.length (aN a.nx)),.d (.ivs a.ac.length (aJ a.ac))],.arr (aL o) 1 0] k
  =k (.exit 0) (Y1 (.ptr 0 0 0::.d .nils::.sl 1 0 0 (sepA a q i o).length::Y8 (Y2 (nI (a.nx.length)::nI (a.nx.length)::Y16 (Y8 (Y4 (Y2 (Y1 ([]))))))))) [.box [nI a.al,.d (.ivs a.nx.length (aN a.nx)),.d (.ivs a.ac.length (aJ a.ac))],.arr (aL (sepA a q i o)) 1 0]:=by
 obtain⟨sa,wa,a1,a2,a3⟩:=bQ ha;intro q
 induction q with
 |zero=>
  intro i m o len hq hm hlen ho;obtain _|m:=m;omega;obtain rfl:i=a.nx.length:=by omega
  subst hlen;simp -implicitDefEqProofs (maxSteps:=2000000) (disch:=try exact Dz) only[↓DN,↓kRet,UP,simprocAttr,Aj,sI,nM,Tryz.f15];rfl
 |succ q ih=>
  intro i m o len hq hm hlen ho;obtain _|m:=m;omega;subst hlen;have hc:(i:Int)<a.nx.length:=by omega
  have loop_c:=fun {R n k} hn=> @HJ R L n hn hL a ha i (by omega) k (a.nx.length-(i+1)) (i+1) L o o.length (by omega) (by omega) rfl (by omega);rw[cs1 i]at loop_c;have hl:=(GP (a:=a) (i:=i) (a.nx.length-(i+1)) (i+1) o).2;have ih':=ih (i+1) m (sepJ a i (a.nx.length-(i+1)) (i+1) o) _ (by omega) (by omega) rfl (by omega);rw[cs1 i]at ih';simp only[sepA];clear ih;generalize sepJ a i (a.nx.length-(i+1)) (i+1) o=w at *;simp -implicitDefEqProofs (maxSteps:=2000000) (disch:=try exact Dz) only[↓DN,↓kRet,UP,simprocAttr,hc,↓loop_c,↓ih',sI,nM,Tryz.f15]
theorem x2(hn:10<=n)(a:Aut)(hv:AOK a)(hL:2^60<=L):aA env L n 15 [.agg [nI a.al,.d (.ivs a.nx.length (aN a.nx)),.d (.ivs a.ac.length (aJ a.ac))]] []=some (.sl 0 0 0 (sepW a).length,[.arr (aL (sepW a)) 1 0]):=by
  obtain⟨sa,wa,a1,a2,a3⟩:=bQ hv;have hrl:=sa.1;have hac:a.ac.length<=4294967296:=by omega
  have loop_c:=fun {R n k} hn=> @IP R L n hn hL a hv k a.nx.length 0 L [[]] 1 (by omega) (by omega) rfl (by simp;omega);have e:aL [[]]=[.str []]:=rfl;have e2:sepA a a.nx.length 0 [[]]=sepW a:=rfl;rw[e,e2]at loop_c;have hl:=OO hv;unfold AOK at hv;simp only[Aq]at loop_c|-;generalize sepW a=w at *;obtain _|n:=n;omega;simp -implicitDefEqProofs (maxSteps:=2000000) (disch:=try exact Dz) only[↓DN,↓kAsg,↓kRet,UP,simprocAttr,↓bT,hv,↓loop_c,PB,zZ,Tryz.f15]
end
section
theorem TH{α:Type}{p q:α->Bool}:∀ {l:List α},(∀x∈l,p x=true->q x=true)->l.countP p=l.countP q->∀x∈l,q x=true->p x=true
 | [],_,_,x,hx,_=>by cases hx
 |a::l,h,he,x,hx,hq=>by
  have hle:=List.countP_mono_left (l:=l) (p:=p) (q:=q) fun y hy=>h y (Be _ hy);rw[Du,Du]at he;have ha:=h a Bi
  cases hpa:p a with
  |true=>
   rw[hpa,ha hpa]at he;have he2:l.countP p=l.countP q:=by simpa using he
   rcases Au.1 hx with rfl|hx
   ·exact hpa
   ·exact TH (fun y hy=>h y (Be _ hy)) he2 x hx hq
  |false=>
   cases hqa:q a with
   |true=>
    rw[hpa,hqa]at he;simp at he;omega
   |false=>
    rw[hpa,hqa]at he;have he2:l.countP p=l.countP q:=by simpa using he
    rcases Au.1 hx with rfl|hx
    ·rw[hqa]at hq;cases hq
    ·exact TH (fun y hy=>h y (Be _ hy)) he2 x hx hq
section
variable(go:Int->Int->Int)(ls:List Int)(acc:Int->Bool)
def nX(w:List Int)(q:Int):Int:=w.foldl go q
def kA(k:Nat)(i j:Int):Prop:=∀w:List Int,(∀l∈w,l∈ls)->w.length<=k->acc (nX go w i)=acc (nX go w j)
variable{go ls acc}
theorem aLe{k:Nat}{i:Int}:kA go ls acc k i i:=fun _ _ _=>rfl
theorem PT{k:Nat}{i j:Int}(h:kA go ls acc k i j):kA go ls acc k j i:=fun w a b=>(h w a b).symm
theorem BR{k:Nat}{i j m:Int}(h:kA go ls acc k i j)(g:kA go ls acc k j m):kA go ls acc k i m:=fun w a b=>(h w a b).trans (g w a b)
theorem PG{k m:Nat}{i j:Int}(h:kA go ls acc m i j)(hk:k<=m):kA go ls acc k i j:=fun w a b=>h w a (Bv b hk)
theorem aBW{k:Nat}{i j:Int}:kA go ls acc (k+1) i j↔acc i=acc j/\∀l∈ls,kA go ls acc k (go i l) (go j l):=by
 constructor
 ·intro h;refine⟨h [] (by simp) (by simp),fun l hl w hw hk=> ?_⟩;exact h (l::w) (by intro x hx;rcases Au.1 hx with rfl|hx;exact hl;exact hw x hx) (by simp;omega)
 ·rintro⟨h1,h2⟩ w hw hk
  cases w with
  |nil=>exact h1
  |cons l w=>exact h2 l (hw l Bi) w (fun x hx=>hw x (Be _ hx)) (by simp at hk;omega)
variable(go ls acc)
open Classical in
noncomputable def repB(k i:Nat):Bool:=decide (∀j:Nat,j<i->¬kA go ls acc k (j:Int) (i:Int))
noncomputable def repC(n k:Nat):Nat:=(List.range n).countP (repB go ls acc k)
variable{go ls acc}
theorem N7{k i:Nat}:repB go ls acc k i=true↔∀j:Nat,j<i->¬kA go ls acc k (j:Int) (i:Int):=by
 unfold repB;simp
theorem aKw{k:Nat}:∀i:Nat,∃r,r<=i/\repB go ls acc k r=true/\kA go ls acc k (r:Int) (i:Int):=by
 intro i
 induction i using Nat.strongRecOn with
 |ind i ih=>
  by_cases h:∃j:Nat,j<i/\kA go ls acc k (j:Int) (i:Int)
  ·obtain⟨j,hj,ha⟩:=h;obtain⟨r,hr,h1,h2⟩:=ih j hj;exact⟨r,by omega,h1,BR h2 ha⟩
  ·refine⟨i,Ab _,N7.2 fun j hj ha=>h ⟨j,hj,ha⟩,aLe⟩
theorem aG0{k i:Nat}(h:repB go ls acc k i=true):repB go ls acc (k+1) i=true:=by
 rw[N7]at h|-;exact fun j hj ha=>h j hj (PG ha (by omega))
theorem aUB{n k:Nat}:repC go ls acc n k<=repC go ls acc n (k+1):=List.countP_mono_left fun _ _ h=>aG0 h
theorem aLV{n k:Nat}(he:repC go ls acc n k=repC go ls acc n (k+1)){i j:Nat}(hi:i<n)(hj:j<n)(h:kA go ls acc k (i:Int) (j:Int)):kA go ls acc (k+1) (i:Int) (j:Int):=by
 have key:=TH (l:=List.range n) (fun x _ h=>aG0 (go:=go) (ls:=ls) (acc:=acc) (k:=k) (i:=x) h) he;obtain⟨r,hr,r1,r2⟩:=aKw (go:=go) (ls:=ls) (acc:=acc) (k:=k+1) i;obtain⟨s,hs,s1,s2⟩:=aKw (go:=go) (ls:=ls) (acc:=acc) (k:=k+1) j;have r3:=key r (Ci.2 (by omega)) r1;have s3:=key s (Ci.2 (by omega)) s1;rw[N7]at r3 s3;have hrs:kA go ls acc k (r:Int) (s:Int):=BR (PG r2 (by omega)) (BR h (PT (PG s2 (by omega))))
 have e:r=s:=by
  rcases Dc r s with h1|h1|h1
  ·exact absurd hrs (s3 r h1)
  ·exact h1
  ·exact absurd (PT hrs) (r3 s h1)
 subst e;exact BR (PT r2) s2
theorem aSX{n:Nat}:∀k:Nat,(∀m,m<k->repC go ls acc n m≠repC go ls acc n (m+1))->repC go ls acc n 0+k<=repC go ls acc n k
 |0,_=>Ab _
 |k+1,h=>by
  have h1:=aSX (n:=n) k fun m hm=>h m (by omega);have h2:=aUB (go:=go) (ls:=ls) (acc:=acc) (n:=n) (k:=k);have h3:=h k (by omega);omega
theorem aJH{n:Nat}(hgo:∀q l:Int,0<=q->q<n->l∈ls->0<=go q l/\go q l<n){i j:Int}(hi:0<=i/\i<n)(hj:0<=j/\j<n){w:List Int}(hw:∀l∈w,l∈ls)(hd:acc (nX go w i)≠acc (nX go w j)):
  ∃v:List Int,(∀l∈v,l∈ls)/\v.length<n/\acc (nX go v i)≠acc (nX go v j):=by
 have hn:1<=n:=by omega
 have hle:∀k,repC go ls acc n k<=n:=fun k=>by
  have:=List.countP_le_length (p:=repB go ls acc k) (l:=List.range n)
  simpa [repC]using this
 have h0:1<=repC go ls acc n 0:=by
  unfold repC;rw[Nat.succ_le_iff,List.countP_pos_iff];exact⟨0,Ci.2 (by omega),N7.2 fun j hj=>by omega⟩
 obtain⟨k,hk,he⟩:∃k,k<n/\repC go ls acc n k=repC go ls acc n (k+1):=by
  apply Ef;intro hc;have:=aSX (go:=go) (ls:=ls) (acc:=acc) (n:=n) n fun m hm he=>hc ⟨m,hm,he⟩;have:=hle n;omega
 have stay:∀d:Nat,∀a b:Nat,a<n->b<n->kA go ls acc k (a:Int) (b:Int)->kA go ls acc (k+d) (a:Int) (b:Int):=by
  intro d
  induction d with
  |zero=>intro a b _ _ h;exact h
  |succ d ih=>
   intro a b ha hb h;have h1:=aLV he ha hb h;rw[aBW]at h1;rw[show k+(d+1)=(k+d)+1 by omega,aBW];refine⟨h1.1,fun l hl=> ?_⟩;have ga:=hgo a l (by omega) (by omega) hl;have gb:=hgo b l (by omega) (by omega) hl
   have:=ih (go a l).toNat (go b l).toNat (by omega) (by omega) (by
    rw[Cv ga.1,Cv gb.1];exact h1.2 l hl)
   rwa [Cv ga.1,Cv gb.1]at this
 apply Ef;intro hc
 have hal:kA go ls acc k ((i.toNat:Nat):Int) ((j.toNat:Nat):Int):=by
  intro v hv hvl;rw[Cv hi.1,Cv hj.1];apply Ef;intro h;exact hc ⟨v,hv,by omega,h⟩
 have:=stay w.length i.toNat j.toNat (by omega) (by omega) hal w hw (by omega);rw[Cv hi.1,Cv hj.1]at this;exact hd this
end
end
def goA(a:Aut)(q l:Int):Int:=goI a.al a.nx q l
def accA(a:Aut)(q:Int):Bool:=a.ac.getD q.toNat false
theorem F9{a:Aut}(h:AOK a):∀q l:Int,0<=q->q<a.nx.length->l∈aB a.al->0<=goA a q l/\goA a q l<a.nx.length:=by
 intro q l h0 h1 hl;have:=cQ l hl;exact nP h h0 h1 this.1 (by omega)
theorem H1{a:Aut}(h:AOK a):∀(w:List Int) (q:Int),(∀l∈w,l∈aB a.al)->0<=q->q<a.nx.length->0<=nX (goA a) w q/\nX (goA a) w q<a.nx.length
 | [],q,_,h0,h1=>⟨h0,h1⟩
 |l::w,q,hw,h0,h1=>by
  have hg:=F9 h q l h0 h1 (hw l Bi);exact H1 h w _ (fun x hx=>hw x (Be _ hx)) hg.1 hg.2
theorem OS{x y n:Int}(hn:0<n)(hx:0<=x)(hy:0<=y)(hy2:y<n):(x*n+y).tdiv n=x/\(x*n+y).tmod n=y:=by
 have h0:0<=x*n+y:=by
  have:=Int.mul_nonneg hx (Int.le_of_lt hn);omega
 rw[Eh h0,Ei h0,Int.add_comm,Int.add_mul_ediv_right _ _ (by omega),Int.add_mul_emod_self_right,Int.ediv_eq_zero_of_lt hy hy2,Int.emod_eq_of_lt hy hy2];omega
theorem N4{a:Aut}(h:AOK a):∀(w:List Int) (i j u:Int),0<=i->i<a.nx.length->0<=j->j<a.nx.length->
  (Path (nxT a a) (aB a.al) (i*a.nx.length+j) w u↔(∀l∈w,l∈aB a.al)/\u=nX (goA a) w i*a.nx.length+nX (goA a) w j)
 | [],i,j,u,_,_,_,_=>by
  simp only[Path,nX,List.foldl_nil]
  constructor
  ·rintro rfl;exact⟨by simp,rfl⟩
  ·rintro⟨_,rfl⟩;rfl
 |l::w,i,j,u,i0,i1,j0,j1=>by
  obtain⟨e1,e2⟩:=OS (n:=(a.nx.length:Int)) (by omega) i0 j0 j1;simp only[Path,nxT,e1,e2,Bk,exists_eq_left]
  constructor
  ·rintro⟨hl,hp⟩;have gi:=F9 h i l i0 i1 hl;have gj:=F9 h j l j0 j1 hl;obtain⟨h1,h2⟩:=(N4 h w (goA a i l) (goA a j l) u gi.1 gi.2 gj.1 gj.2).1 hp;refine⟨?_,h2⟩;intro x hx
   rcases Au.1 hx with rfl|hx
   ·exact hl
   ·exact h1 x hx
  ·rintro⟨hw,hu⟩;have hl:=hw l Bi;have gi:=F9 h i l i0 i1 hl;have gj:=F9 h j l j0 j1 hl;exact⟨hl,(N4 h w (goA a i l) (goA a j l) u gi.1 gi.2 gj.1 gj.2).2 ⟨fun x hx=>hw x (Be _ hx),hu⟩⟩
def aLK(a:Aut)(i j:Int)(w:List Int):Prop:=(∀l∈w,l∈aB a.al)/\accA a (nX (goA a) w i)≠accA a (nX (goA a) w j)
theorem aQJ{a:Aut}(h:AOK a){i j:Int}(hi:0<=i/\i<a.nx.length)(hj:0<=j/\j<a.nx.length)(w:List Int):
  Hits (nxT a a) (aB a.al) [i*a.nx.length+j] (glT (fun x y=>x !=y) a a) w↔aLK a i j w:=by
 unfold Hits tH aLK;simp only[Bk,exists_eq_left]
 constructor
 ·rintro⟨u,hp,hg⟩;obtain⟨h1,rfl⟩:=(N4 h w i j u hi.1 hi.2 hj.1 hj.2).1 hp;have ri:=H1 h w i h1 hi.1 hi.2;have rj:=H1 h w j h1 hj.1 hj.2;obtain⟨e1,e2⟩:=OS (n:=(a.nx.length:Int)) (by omega) ri.1 rj.1 rj.2;refine⟨h1,?_⟩;unfold glT at hg;rw[e1,e2]at hg
  simpa [accA]using hg
 ·rintro⟨h1,h2⟩;have ri:=H1 h w i h1 hi.1 hi.2;have rj:=H1 h w j h1 hj.1 hj.2;obtain⟨e1,e2⟩:=OS (n:=(a.nx.length:Int)) (by omega) ri.1 rj.1 rj.2;refine⟨_,(N4 h w i j _ hi.1 hi.2 hj.1 hj.2).2 ⟨h1,rfl⟩,?_⟩;unfold glT;rw[e1,e2]
  simpa [accA]using h2
theorem aN4{a:Aut}(h:AOK a){i j:Int}(hi:0<=i/\i<a.nx.length)(hj:0<=j/\j<a.nx.length):FJ (aLK a i j) (j4 a i j):=by
 have hok:NM a i j=true:=by
  have h':dP a.al a.nx a.ac=true:=h;unfold NM;rw[h']
  simp;omega
 unfold j4;rw[if_pos hok];refine aCE (aQJ h hi hj) ?_;have hs:=FV hi hj
 have hr:∀v c:Int,0<=v->v<((a.nx.length*a.nx.length:Nat):Int)->c∈aB a.al->∀m∈nxT a a v c,0<=m/\m<((a.nx.length*a.nx.length:Nat):Int):=by
  intro v c h0 h1 hc;have:=cQ c hc;rw[Cd]at h1|-;exact WA h h h0 h1 (by omega)
 refine aDC (mY _) hr (fun n hn=> ?_) (by simp);simp only[Bk]at hn;subst hn;rw[Cd];exact hs
theorem aGQ{a:Aut}(h:AOK a){i j:Int}(hi:0<=i/\i<a.nx.length)(hj:0<=j/\j<a.nx.length)(h2:(j4 a i j).2=true):(j4 a i j).1.length<a.nx.length/\∀l∈(j4 a i j).1,l∈aB a.al:=by
 rcases aN4 h hi hj with⟨_,hl⟩|⟨he,_⟩
 ·obtain⟨⟨t1,t2⟩,hmin⟩:=hl;refine⟨?_,t1⟩;obtain⟨v,v1,v2,v3⟩:=aJH (go:=goA a) (ls:=aB a.al) (acc:=accA a) (n:=a.nx.length) (F9 h) hi hj t1 t2;apply Ef;intro hc;exact hmin v ⟨v1,v3⟩ (.inl (by omega))
 ·rw[he]at h2;cases h2
theorem aUR{al:Int}(ha:kD al=true){w:List Int}(hw:∀l∈w,l∈aB al)(hl:w.length<=50000):mA al (txt w)=true:=by
 unfold mA txt;simp only[Ar,decide_eq_true_eq,Ay,Bf,Bq];refine⟨⟨ha,hl⟩,?_⟩;rintro b ⟨l,hlm,rfl⟩;have hb:=cQ l (hw l hlm);have h2:=(gZ.1 (hw l hlm)).2;unfold inB okB;rw[RX hb.1 hb.2,h2];simp[qM];omega
def aA0(a:Aut)(o:List Str):Prop:=o.Nodup/\∀w∈o,w.length<a.nx.length/\mA a.al w=true
theorem aDh{a:Aut}(h:AOK a){i:Nat}(hi:i<a.nx.length):∀(q j:Nat) (o:List Str),j+q=a.nx.length->aA0 a o->aA0 a (sepJ a i q j o)
 |0,_,o,_,ho=>ho
 |q+1,j,o,hj,ho=>by
  unfold sepJ
  split
  ·rename_i hc
   refine aDh h hi q (j+1) _ (by omega) ⟨?_,fun w hw=> ?_⟩
   ·rw[Dt];refine⟨ho.1,by simp,fun x hx y hy=> ?_⟩;simp only[Bk]at hy;subst hy;rintro rfl;exact hc.2 hx
   ·rcases Al.1 hw with hw|hw
    ·exact ho.2 w hw
    ·simp only[Bk]at hw;subst hw;obtain⟨_,_,_,a2,_⟩:=bQ h;obtain⟨s1,s2⟩:=aGQ h (i:=i) (j:=j) (by omega) (by omega) hc.1;exact⟨by simpa [txt]using s1,aUR (kX h).2.2.2 s2 (by omega)⟩
  ·exact aDh h hi q (j+1) o (by omega) ho
theorem aK2{a:Aut}(h:AOK a):∀(q i:Nat) (o:List Str),i+q=a.nx.length->aA0 a o->aA0 a (sepA a q i o)
 |0,_,o,_,ho=>ho
 |q+1,i,o,hi,ho=>by
  unfold sepA;exact aK2 h q (i+1) _ (by omega) (aDh h (by omega) _ (i+1) o (by omega) ho)
theorem aTR{a:Aut}(h:AOK a):aA0 a (sepW a):=by
 obtain⟨a1,_,_,ha⟩:=kX h;refine aK2 h _ 0 _ (by omega) ⟨by simp,fun w hw=> ?_⟩;simp only[Bk]at hw;subst hw;refine⟨by simp;omega,?_⟩;unfold mA;simp[ha]
def Wk(al:Int)(n:Nat)(w:Str):Prop:=w.length<=n/\∀b∈w,∃l∈aB al,b=b7 l
theorem Wk.app{al:Int}{n m:Nat}{u v:Str}(h:Wk al n u)(g:Wk al m v):Wk al (n+m) (u++v):=by
 refine⟨by rw[Af];have:=h.1;have:=g.1;omega,fun b hb=> ?_⟩
 rcases Al.1 hb with hb|hb
 ·exact h.2 b hb
 ·exact g.2 b hb
theorem Wk.txt{al:Int}{n:Nat}{w:Str}(h:Wk al n w):∃u:List Int,w=Ev.txt u/\(∀l∈u,l∈aB al)/\u.length=w.length:=by
 obtain⟨h1,h2⟩:=h;clear h1
 induction w with
 |nil=>exact⟨[],rfl,by simp,rfl⟩
 |cons b w ih=>
  obtain⟨u,e,hu,hl⟩:=ih fun b hb=>h2 b (Be _ hb);obtain⟨l,hlm,e2⟩:=h2 b Bi;refine⟨l::u,by rw[e2,e];rfl,fun x hx=> ?_,by simp[hl]⟩
  rcases Au.1 hx with rfl|hx
  ·exact hlm
  ·exact hu x hx
theorem Wk.ok{al:Int}{n:Nat}{w:Str}(ha:kD al=true)(h:Wk al n w)(hn:n<=50000):mA al w=true/\cX w=true:=by
 obtain⟨u,e,hu,hl⟩:=h.txt;have:=h.1;rw[e];exact aDX ha hu (by omega)
theorem aU2{al:Int}{n:Nat}{u:List Int}(hu:∀l∈u,l∈aB al)(hl:u.length<=n):Wk al n (txt u):=by
 refine⟨by unfold txt;rw[Ay];exact hl,fun b hb=> ?_⟩;obtain⟨l,hlm,rfl⟩:=Bq.1 hb;exact⟨l,hu l hlm,rfl⟩
theorem aOZ{a:Aut}(h:AOK a):∀w∈cH a,Wk a.al (a.nx.length-1) w:=by
 obtain⟨W,hB⟩:=sL h;have hn:=jD hB.nod hB.rng;rw[CJ h hB];intro w hw;obtain⟨i,hi,rfl⟩:=Bq.1 hw;have hi:=Ci.1 hi;have:=aH2 hB i i (Ab _) hi;exact aU2 (hB.lts i hi) (by omega)
theorem aOs{a:Aut}(h:AOK a):∀w∈sepW a,Wk a.al (a.nx.length-1) w:=by
 intro w hw;obtain⟨h1,h2⟩:=(aTR h).2 w hw;refine⟨by omega,fun b hb=> ?_⟩;unfold mA at h2;simp only[Ar,decide_eq_true_eq,Bf]at h2;have hb:=h2.2 b hb;unfold inB at hb;simp only[Ar]at hb;have h3:=hb.1;unfold okB qM at h3;simp only[decide_eq_true_eq]at h3;refine⟨ltr b,gZ.2 ⟨by omega,hb.2⟩,?_⟩;exact aMR.symm
theorem aQj{al:Int}{k:Nat}:∀w∈midG (aB al) k,Wk al k w:=fun w hw=>aEu k w hw
theorem aI2{a:Aut}(h:AOK a){e:Nat}{c m w:Str}(hc:c∈cH a)(hm:m∈midG (aB a.al) (e+1))(hw:w∈sepW a):Wk a.al (2*a.nx.length+e) (c++m++w):=by
 obtain⟨_,_,a1,_,_⟩:=bQ h;have:=((aOZ h c hc).app (aQj m hm)).app (aOs h w hw);exact⟨by have:=this.1;omega,this.2⟩
section
variable{R:Type}{L n:Nat}
theorem aD4(hn:1<=n){l:List Int}{x:Int}{q:Nat}(hql:q<l.length)(hl:l.length<=4294967290)(hx:l.getD q 0=x)(hne:∀i,i<q->¬l.getD i 0=x){k:KE R}:∀(j i m:Nat) (hi:i+j=q) (hm:j<m),
  aM env (aA env L n) L 0 [] Bz60 (rN 0) (Z2 (U2 (Z2 (U8 (U1 ([])))))) m (.d (.ivs l.length (ints l))::nI x::Y2 (nI 0::nI i::Y8 (Y1 ([])))) [] k
  =k (.exit 0) (.d (.ivs l.length (ints l))::nI x::Y2 (nI 0::nI q::Y8 (Y1 ([])))) []:=by
 intro j
 induction j with
 |zero=>
  intro i m hi hm;obtain _|m:=m;omega;obtain rfl:i=q:=by omega
  have hc:(i:Int)<l.length:=by omega
  have hi0:(0:Int)<=i:=by omega
  simp -implicitDefEqProofs (maxSteps:=2000000) (disch:=try exact Dz) only[↓DN,↓kRet,UP,simprocAttr,hc,hi0,hx,H2,D2,Tryz.f103]
 |succ j ih=>
  intro i m hi hm;obtain _|m:=m;omega;have hc:(i:Int)<l.length:=by omega
  have hi0:(0:Int)<=i:=by omega
  have he:=hne i (by omega);have ih':=ih (i+1) m (by omega) (by omega);rw[cs1 i]at ih';clear ih;simp -implicitDefEqProofs (maxSteps:=2000000) (disch:=try exact Dz) only[↓DN,↓kRet,UP,simprocAttr,hc,hi0,he,↓ih',H2,D2,Tryz.f103]
theorem aTC{l:List Int}{x:Int}{i:Nat}(h:i<l.idxOf x)(hx:x∈l):¬l.getD i 0=x:=by
 obtain⟨_,hq⟩:=AQ hx;rw[Aa,Ae (by omega)];intro e;have e2:l[i]'(by omega)=x:=e;have:=List.not_of_lt_findIdx (p:=(·==x)) (xs:=l) (i:=i) h;rw[e2]at this;simp at this
theorem TW(hn:2<=n)(l:List Int)(x:Int)(hx:x∈l)(hl:l.length<=4294967290)(hL:2^60<=L):aA env L n 103 [.d (.ivs l.length (ints l)),nI x] []=some (nI (idxU l x),[]):=by
 obtain⟨h1,h2⟩:=AQ hx;have loop_c:=fun {R n k} hn=> @aD4 R L n hn l x (l.idxOf x) h2 hl h1 (fun i hi=>aTC hi hx) k (l.idxOf x) 0 L (by omega) (by omega);simp only[Aq]at loop_c;unfold idxU;generalize l.idxOf x=q at *;obtain _|n:=n;omega;simp -implicitDefEqProofs (maxSteps:=2000000) (disch:=try exact Dz) only[↓DN,↓kAsg,UP,simprocAttr,↓loop_c,aHp,X3,Tryz.f103]
theorem aI8:type_of% fun {L} l x hx hl hL=>ks fun hn=> @TW L _ hn l x hx hl hL:=fun {L} l x hx hl hL=>ks fun hn=> @TW L _ hn l x hx hl hL
theorem aAK(hn:3<=n)(hL:2^60<=L){a:Aut}{i:Nat}{r:List Int}(hr:r.length<=100){k:KE R}:∀(j q m:Nat) (o:List Int) (len:Nat) (hq:q+j=r.length) (hm:j<m) (hlen:len=o.length) (ho:o.length+j<=100000),
  aM env (aA env L n) L 0 [] Bz28 (gB 1) (U1 (Z4 (Z2 (U32 (U4 ([])))))) m (Y1 (.ptr 0 0 0::.d .nils::.sl 1 0 0 len::nI i::.d (.ivs r.length (ints r))::nI q::Y32 (Y4 ([])))) [.box [nI a.al,.d (.ivs a.nx.length (aN a.nx)),.d (.ivs a.ac.length (aJ a.ac))],.arr (ints o) 1 0] k
  =k (.exit 2) (Y1 (.ptr 0 0 0::.d .nils::.sl 1 0 0 (rowU o (r.drop q)).length::nI i::.d (.ivs r.length (ints r))::nI (r.length)::Y32 (Y4 ([])))) [.box [nI a.al,.d (.ivs a.nx.length (aN a.nx)),.d (.ivs a.ac.length (aJ a.ac))],.arr (ints (rowU o (r.drop q))) 1 0]:=by
 intro j
 induction j with
 |zero=>
  intro q m o len hq hm hlen ho;obtain _|m:=m;omega;obtain rfl:q=r.length:=by omega
  subst hlen;simp -implicitDefEqProofs (maxSteps:=2000000) (disch:=try exact Dz) only[↓DN,↓kRet,UP,simprocAttr,Aj,vZ,vD,Tryz.f102];rw[Ca];rfl
 |succ j ih=>
  intro q m o len hq hm hlen ho;obtain _|m:=m;omega;subst hlen;have hk:q<r.length:=by omega
  have hc:(q:Int)<r.length:=by omega
  have hq0:(0:Int)<=q:=by omega
  have kl_i:=@aFP L o (r.getD q 0) (by omega) hL;have hl4:o.length<=4294967290:=by omega
  rw[cI hk (d:=0)]
  by_cases h:r.getD q 0∈o
  ·have e:rowU o (r.getD q 0::r.drop (q+1))=rowU o (r.drop (q+1)):=by
    unfold rowU;rw[List.foldl_cons,addU,if_pos h]
   have ih':=ih (q+1) m o o.length (by omega) (by omega) rfl (by omega);rw[cs1 q]at ih';rw[e];rw[decide_eq_true h]at kl_i;clear ih;generalize rowU o (r.drop (q+1))=w at *;simp -implicitDefEqProofs (maxSteps:=2000000) (disch:=try exact Dz) only[↓DN,↓kRet,UP,simprocAttr,↓BW,hc,hq0,↓kl_i,↓ih',vZ,vD,Tryz.f102]
  ·have e:rowU o (r.getD q 0::r.drop (q+1))=rowU (o++[r.getD q 0]) (r.drop (q+1)):=by
    unfold rowU;rw[List.foldl_cons,addU,if_neg h]
   have ih':=ih (q+1) m (o++[r.getD q 0]) (o.length+1) (by omega) (by omega) (by simp) (by simp;omega);rw[cs1 q]at ih';rw[e];rw[decide_eq_false h]at kl_i;clear ih;generalize rowU (o++[r.getD q 0]) (r.drop (q+1))=w at *;simp -implicitDefEqProofs (maxSteps:=2000000) (disch:=try exact Dz) only[↓DN,↓kRet,UP,simprocAttr,↓BW,hc,hq0,↓kl_i,↓ih',vZ,vD,Tryz.f102]
theorem aAa(hn:3<=n)(hL:2^60<=L){a:Aut}(ha:AOK a){k:KE R}:∀(j i m:Nat) (o:List Int) (W:Nat->List Int) (len:Nat) (hB:Bfs (goS a) (aB a.al) a.nx.length i [] o W) (hi:i<=o.length) (hj:a.nx.length<i+j) (hm:j<m) (hlen:len=o.length),
  aM env (aA env L n) L 0 [] Bz28 (gB 0) Bz59 m (Y1 (.ptr 0 0 0::.d .nils::.sl 1 0 0 len::nI i::Y32 (Y4 (Y2 ([]))))) [.box [nI a.al,.d (.ivs a.nx.length (aN a.nx)),.d (.ivs a.ac.length (aJ a.ac))],.arr (ints o) 1 0] k
  =k (.exit 0) (Y1 (.ptr 0 0 0::.d .nils::.sl 1 0 0 (ordB (goS a) (aB a.al) j i o).length::nI ((ordB (goS a) (aB a.al) j i o).length:Int)::Y32 (Y4 (Y2 ([]))))) [.box [nI a.al,.d (.ivs a.nx.length (aN a.nx)),.d (.ivs a.ac.length (aJ a.ac))],.arr (ints (ordB (goS a) (aB a.al) j i o)) 1 0]:=by
 obtain⟨sa,wa,a1,a2,a3⟩:=bQ ha;have hal:=sa.1
 have last:∀(i m:Nat) (o:List Int) (len:Nat),i=o.length->0<m->len=o.length->aM env (aA env L n) L 0 [] Bz28 (gB 0) Bz59 m (Y1 (.ptr 0 0 0::.d .nils::.sl 1 0 0 len::nI i::Y32 (Y4 (Y2 ([]))))) [.box [nI a.al,.d (.ivs a.nx.length (aN a.nx)),.d (.ivs a.ac.length (aJ a.ac))],.arr (ints o) 1 0] k
  =k (.exit 0) (Y1 (.ptr 0 0 0::.d .nils::.sl 1 0 0 o.length::nI (o.length:Int)::Y32 (Y4 (Y2 ([]))))) [.box [nI a.al,.d (.ivs a.nx.length (aN a.nx)),.d (.ivs a.ac.length (aJ a.ac))],.arr (ints o) 1 0]:=by
  intro i m o len hi hm hlen;obtain _|m:=m;omega;subst hi;subst hlen;simp -implicitDefEqProofs (maxSteps:=2000000) (disch:=try exact Dz) only[↓DN,↓kRet,UP,simprocAttr,Aj,IK,DS,Tryz.f102]
 intro j
 induction j with
 |zero=>
  intro i m o W len hB hi hj hm hlen;have:=jD hB.nod hB.rng;omega
 |succ j ih=>
  intro i m o W len hB hi hj hm hlen;unfold ordB
  by_cases hlt:i<o.length
  ·obtain _|m:=m;omega;subst hlen;rw[if_pos hlt];obtain⟨v0,v1⟩:=hB.rng _ (sZ hlt);have hrm:=aDi ha v0 v1;obtain⟨W1,h1,h2⟩:=Bfs.row (mY _) (fun l hl=>aKt ha _ l v0 v1 hl) (aB a.al) [] o W hB rfl hlt rfl;rw[hrm]at h1 h2|-;have hn1:=jD hB.nod hB.rng;have hrl:=(I4 ha (i:=(o.getD i 0).toNat) (by omega)).1;have hll:=b9 a.al;have loop_c:=fun {R n k} hn=> @aAK R L n hn hL a i (rowA a (o.getD i 0)) (by unfold rowA;omega) k (rowA a (o.getD i 0)).length 0 L o o.length (by omega) (by unfold rowA;omega) rfl (by unfold rowA;omega);rw[Bc]at loop_c;have ih':=ih (i+1) m (rowU o (rowA a (o.getD i 0))) W1 _ h1.next (by omega) (by omega) (by omega) rfl;rw[cs1 i]at ih';simp only[Aq]at loop_c;have hc:(i:Int)<o.length:=by omega
   have hi0:(0:Int)<=i:=by omega
   clear ih h1 hB last hrm;unfold rowA at *;generalize hv:o.getD i 0=v at *;have hk:v.toNat<a.nx.length:=by omega
   generalize rowU o (a.nx.getD v.toNat [])=w at *;generalize ordB (goS a) (aB a.al) j (i+1) w=z at *;simp -implicitDefEqProofs (maxSteps:=2000000) (disch:=try exact Dz) only[↓DN,↓kAsg,↓kRet,UP,simprocAttr,LA,hc,hi0,hv,v0,v1,↓loop_c,↓ih',IK,DS,Tryz.f102]
  ·rw[if_neg hlt];exact last i m o len (by omega) (by omega) hlen
theorem TD(hn:4<=n)(a:Aut)(ha:AOK a)(hL:2^60<=L):aA env L n 102 [.agg [nI a.al,.d (.ivs a.nx.length (aN a.nx)),.d (.ivs a.ac.length (aJ a.ac))]] []=some (.d (.ivs (ordA a).length (ints (ordA a))),[]):=by
 obtain⟨sa,wa,a1,a2,a3⟩:=bQ ha;have loop_c:=fun {R n k} hn=> @aAa R L n hn hL a ha k (a.nx.length+1) 0 L [0] (fun _=>[]) 1 (Bfs.start (by omega)) (by omega) (by omega) (by omega) rfl;have e:ints [0]=[.int .i64 0]:=rfl;have e2:ordB (goS a) (aB a.al) (a.nx.length+1) 0 [0]=ordA a:=rfl;rw[e,e2]at loop_c;simp only[Aq]at loop_c;obtain⟨W,hB⟩:=sL ha;have hl:=jD hB.nod hB.rng;clear hB;generalize ordA a=w at *;have e4:(ints w).take w.length=ints w:=by rw[eS (Ab _)]
 obtain _|n:=n;omega;simp -implicitDefEqProofs (maxSteps:=2000000) (disch:=try exact Dz) only[↓DN,↓kAsg,↓kRet,UP,simprocAttr,e4,↓loop_c,aHF,XQ,Tryz.f102]
theorem aIy:type_of% fun {L} a ha hL=>ks fun hn=> @TD L _ hn a ha hL:=fun {L} a ha hL=>ks fun hn=> @TD L _ hn a ha hL
end
def netO(a:Aut)(st:Int):Net:=⟨[],[a],[0],a.al,5,st⟩
theorem aKH{na v:Int}(h0:0<=v)(h1:v<na):decN [na] v=[v]:=by
 show [v.tmod na]=[v]
 rw[Ei h0,Int.emod_eq_of_lt h0 h1]
theorem aPV{a:Aut}(ha:AOK a)(st:Int):WO (nxS a) (glS st) (aB a.al) a.nx.length 0=oneG a st:=by
 obtain⟨_,_,h1,_,_⟩:=bQ ha;refine rY (aIM (fun v c h0 h1 hc=> ?_) (mY _) (by omega) (by omega)) (F8 ha st);have:=cQ c hc;exact MH ha h0 h1 (by omega)
theorem aGc{L n:Nat}(hn:11<=n)(hL:2^60<=L){a:Aut}(ha:AOK a)(st:Int):
  aA env L n 105 [.agg [.d .nils,.d (.ivs 1 (fS [a])),.d (.ivs 1 (ints [0])),nI a.al,nI 5,nI st]] []=some (.tup [.d (.str (txt (oneG a st).1)),.d (.bool (oneG a st).2)],[]):=by
 obtain⟨sa,aw,a1,a2,a3⟩:=bQ ha;have hz:MY (netO a st)=[(a.nx.length:Int)]:=rfl;rw[<-aPV ha st]
 have key:=@S3 L n hn hL 1 (fS [a]) 5 st a.al 0 [0] [(a.nx.length:Int)] (nxS a) (glS st) a.nx.length (by simp) rfl (by
   intro q hq
   match q,hq with
   |0,_=>exact⟨by simp,by simp⟩
   |1,_=>simp;omega
   |q+2,hq=>simp at hq) (by simp) (by intro z hz;simp at hz;subst hz;omega) (by
   simp only[OQ,and_true];refine⟨by omega,by omega,?_⟩
   simp) (by simp[encN]) (by omega) (by omega)
   (fun {n} hn=>by
    have:=@U5 L n hn (netO a st) (by simp[netO]) (by simp[netO]) (fun x hx=>by simp[netO]at hx;subst hx;omega) hL;exact this)
   (fun v l hv hl {R n hq k} hn=>by
    have hl2:=cQ l hl;rw[aKH (by omega) (by omega)];have ga:=nP ha (q:=(v:Int)) (by omega) (by omega) hl2.1 (by omega)
    have hnx:nexG (fun i=>[goI a.al a.nx (v:Int) l]) [(a.nx.length:Int)] 1 0 [0]=nxS a v l:=by
     simp[nexG,mulN,nxS]
    rw[<-hnx];refine c8 rfl (@VU L n hn hL 0 1 1 [] (fS [a]) (ints [0]) a.al 5 st [(a.nx.length:Int)] [(v:Int)] l (fun i=>[goI a.al a.nx (v:Int) l]) (fun i=>if i=0 then 0 else 11) rfl (by simp) (fun t ht {R n hq k} hn=> ?_) (fun t ht=> ?_) (fun t ht=> ?_) (fun t ht c hc=> ?_) (by simp) (fun t ht=> ?_)) rfl (.inr rfl)
    ·match t,ht with
     |0,_=>exact c8 rfl (AS hn (netO a st) 0 _ l (Ab _) (by simp[netO]) (by simp[netO]) (by simp[netO]) a rfl sa aw (by show(0:Int)<=(v:Int);omega) (by show(v:Int)<_;omega) hl2.1 (by omega) hL) rfl (.inr rfl)
     |t+1,ht=>exact absurd ht (by show ¬(t+1<1);omega)
    ·match t,ht with
     |0,_=>simp;omega
     |t+1,ht=>exact absurd ht (by show ¬(t+1<1);omega)
    ·simp
    ·match t,ht with
     |0,_=>simp at hc;subst hc;simpa using ga
     |t+1,ht=>exact absurd ht (by show ¬(t+1<1);omega)
    ·match t,ht with
     |0,_=>simp;omega
     |t+1,ht=>exact absurd ht (by show ¬(t+1<1);omega))
   (fun v hv {R n k} hn=>by
    rw[aKH (by omega) (by omega)];have hg:NP (netO a st) [(v:Int)] ((movT (nxS a) (aB a.al) a.nx.length).getD v [])=glS st v:=rfl;rw[<-hg];exact lI (aGk (by omega) (netO a st) [(v:Int)] ((movT (nxS a) (aB a.al) a.nx.length).getD v []) rfl (by simp[netO]) (by simp[netO]) (by simp)) rfl)
   (fun v c h0 h1 hc=>by
    have:=cQ c hc;exact⟨by simp[nxS],MH ha h0 h1 (by omega)⟩)
 exact key
theorem LG{L n:Nat}(hn:12<=n)(a:Aut)(st:Int)(hs:bF a.nx)(hac:a.ac.length<=4294967296)(hL:2^60<=L):aA env L n 74 [.agg [nI a.al,.d (.ivs a.nx.length (aN a.nx)),.d (.ivs a.ac.length (aJ a.ac))],nI st] []=some (.tup [.d (.str (txt (accG a st).1)),.d (.bool (accG a st).2)],[]):=by
 have hrl:=hs.1;unfold accG
 cases hv:dP a.al a.nx a.ac with
 |false=>
  simp only[Ak,if_false,txt,Ap];obtain _|n:=n;omega;simp -implicitDefEqProofs (maxSteps:=2000000) (disch:=try exact Dz) only[↓DN,↓kAsg,↓kRet,UP,simprocAttr,↓bR,hv,yU,tJ,Tryz.f74]
 |true=>
  simp only[if_true]
  by_cases h1:0<=st/\st<a.nx.length
  ·obtain⟨h1,h2⟩:=h1;have kc_b:=fun {R:Type} {n:Nat} {k:A->Option R} (hn:11<=n)=>lI (call:=aA env L n) (k:=k) (f:=105) (@aGc L n hn hL a hv st) rfl;simp only[fS,ints,Ai,Ap]at kc_b;have kl_b:=fun {R:Type} {n:Nat} {k:A->Option R} (hn:11<=n)=>kc_b (R:=R) (n:=n) (k:=k) hn;have kv_l:=fun {R:Type} {n:Nat} {hq:H} {args:List A} {k:KA R}=>dU (E:=env) (call:=aA env L n) (h:=hq) (k:=k) (args:=args) s5;clear kc_b;generalize oneG a st=r at *;obtain _|n:=n;omega;simp -implicitDefEqProofs (maxSteps:=2000000) (disch:=try exact Dz) only[↓DN,↓kAsg,↓kRet,UP,simprocAttr,↓bR,↓r9,hv,h1,h2,↓kv_l,↓kl_b,yU,tJ,Tryz.f74]
  ·rw[aTv hv h1]
   have e3:(decide (0<=st)&&decide (st<a.nx.length))=false:=by
    rw[Bool.and_eq_false_iff,decide_eq_false_iff_not,decide_eq_false_iff_not];omega
   simp only[txt,Ap];obtain _|n:=n;omega;simp -implicitDefEqProofs (maxSteps:=2000000) (disch:=try exact Dz) only[↓DN,↓kAsg,↓kRet,UP,simprocAttr,↓bR,↓r9,hv,e3,yU,tJ,Tryz.f74]
theorem aDc:type_of% fun {L} a st hs hac hL=>ks fun hn=> @LG L _ hn a st hs hac hL:=fun {L} a st hs hac hL=>ks fun hn=> @LG L _ hn a st hs hac hL
section
variable{R:Type}{L n:Nat}
theorem aJA{f:Int->Int}{r:List Int}{k:Nat}(h:k<r.length):(r.drop k).map f=f (r.getD k 0)::(r.drop (k+1)).map f:=by
 rw[cI h (d:=0)];rfl
theorem Y0{b:List Bool}{x:Bool}:aJ b++[.bool x]=aJ (b++[x]):=by simp[aJ]
theorem aA8(hn:3<=n)(hL:2^60<=L){a:Aut}{o:List Int}{i:Nat}{v:Int}(hio:i<o.length)(hoi:o.getD i 0=v)(v0:0<=v)(v1:v<a.nx.length)(hr:(rowA a v).length<=100)(ho:o.length<=100)(hal:a.nx.length<=100)(hin:∀x∈rowA a v,x∈o){al2:Int}{d e:Nat}{cn cs2:List D}{k:KE R}:∀(j q m:Nat) (r:List Int) (len:Nat) (hq:q+j=(rowA a v).length) (hm:j<m) (hlen:len=r.length) (hr2:r.length+j<=1000),
  aM env (aA env L n) L 0 [] Bz21 (jS 1) (U1 (Z4 (Z2 (Z1 (U32 (U16 (U8 (U4 (U1 ([])))))))))) m (Y1 (.ptr 0 0 0::.ptr 1 0 0::.d (.ivs o.length (ints o))::.ptr 2 0 0::nI i::.sl 3 0 0 len::nI q::Y32 (Y16 (Y8 (Y4 (Y1 ([]))))))) [.box [nI a.al,.d (.ivs a.nx.length (aN a.nx)),.d (.ivs a.ac.length (aJ a.ac))],.box [nI 0,.sl 4 0 0 0,.sl 5 0 0 0],.box [nI al2,.sl 6 0 0 d,.sl 7 0 0 d],.arr (ints r) 1 0,.arr [] 0 0,.arr [] 0 0,.arr cn e 0,.arr cs2 e 0] k
  =k (.exit 2) (Y1 (.ptr 0 0 0::.ptr 1 0 0::.d (.ivs o.length (ints o))::.ptr 2 0 0::nI i::.sl 3 0 0 (r++((rowA a v).drop q).map (idxU o)).length::nI ((rowA a v).length)::Y32 (Y16 (Y8 (Y4 (Y1 ([]))))))) [.box [nI a.al,.d (.ivs a.nx.length (aN a.nx)),.d (.ivs a.ac.length (aJ a.ac))],.box [nI 0,.sl 4 0 0 0,.sl 5 0 0 0],.box [nI al2,.sl 6 0 0 d,.sl 7 0 0 d],.arr (ints (r++((rowA a v).drop q).map (idxU o))) 1 0,.arr [] 0 0,.arr [] 0 0,.arr cn e 0,.arr cs2 e 0]:=by
 have hio1:(i:Int)<o.length:=by omega
 have hi0:(0:Int)<=i:=by omega
 have hvk:v.toNat<a.nx.length:=by omega
 intro j
 induction j with
 |zero=>
  intro q m r len hq hm hlen hr2;obtain _|m:=m;omega;obtain rfl:q=(rowA a v).length:=by omega
  subst hlen;rw[Ca];unfold rowA at *;simp -implicitDefEqProofs (maxSteps:=2000000) (disch:=try exact Dz) only[↓DN,↓kRet,UP,simprocAttr,LA,hio1,hi0,hoi,v0,v1,Aj,JK,HG,Tryz.f73]
 |succ j ih=>
  intro q m r len hq hm hlen hr2;obtain _|m:=m;omega;subst hlen;have hk:q<(rowA a v).length:=by omega
  have hx:(rowA a v).getD q 0∈o:=hin _ (sZ hk);have ih':=ih (q+1) m (r++[idxU o ((rowA a v).getD q 0)]) (r.length+1) (by omega) (by omega) (by simp) (by simp;omega);rw[cs1 q]at ih';simp only[Ao,Ee]at ih';rw[aJA hk];have kc_x:=@aI8 L o ((rowA a v).getD q 0) hx (by omega) hL;have hc:(q:Int)<(rowA a v).length:=by omega
  have hq0:(0:Int)<=q:=by omega
  clear ih hx hin;generalize((rowA a v).drop (q+1)).map (idxU o)=w at *;unfold rowA at *;have hr100:r.length<=1000:=by omega
  simp -implicitDefEqProofs (maxSteps:=2000000) (disch:=try exact Dz) only[↓DN,↓kRet,UP,simprocAttr,LA,hio1,hi0,hoi,v0,v1,hc,hq0,↓kc_x,↓ih',JK,HG,Tryz.f73]
theorem aCp(hn:3<=n)(hL:2^60<=L){a:Aut}(ha:AOK a){o:List Int}(ho:o.length<=12)(hor:∀x∈o,0<=x/\x<a.nx.length)(hin:∀v∈o,∀x∈rowA a v,x∈o){al2:Int}{k:KE R}:∀(j i m:Nat) (d:List (List Int)) (b:List Bool) (len e:Nat) (hi:i+j=o.length) (hm:j<m) (hd:d=(o.take i).map fun v=>(rowA a v).map (idxU o)) (hb:b=(o.take i).map fun v=>a.ac.getD v.toNat false) (hlen:i=len) (he:e=if i=0 then 0 else 1),
  aM env (aA env L n) L 0 [] Bz21 (jS 0) (U1 (Z4 (Z1 (U32 (U16 (U8 (U4 (U2 (U1 ([])))))))))) m (Y1 (.ptr 0 0 0::.ptr 1 0 0::.d (.ivs o.length (ints o))::.ptr 2 0 0::nI i::Y32 (Y16 (Y8 (Y4 (Y2 (Y1 ([])))))))) [.box [nI a.al,.d (.ivs a.nx.length (aN a.nx)),.d (.ivs a.ac.length (aJ a.ac))],.box [nI 0,.sl 3 0 0 0,.sl 4 0 0 0],.box [nI al2,.sl 5 0 0 len,.sl 6 0 0 len],.arr [] 0 0,.arr [] 0 0,.arr (aN d) e 0,.arr (aJ b) e 0] k
  =k (.exit 0) (Y1 (.ptr 0 0 0::.ptr 1 0 0::.d (.ivs o.length (ints o))::.ptr 2 0 0::nI (o.length:Int)::Y32 (Y16 (Y8 (Y4 (Y2 (Y1 ([])))))))) [.box [nI a.al,.d (.ivs a.nx.length (aN a.nx)),.d (.ivs a.ac.length (aJ a.ac))],.box [nI 0,.sl 3 0 0 0,.sl 4 0 0 0],.box [nI al2,.sl 5 0 0 o.length,.sl 6 0 0 o.length],.arr [] 0 0,.arr [] 0 0,.arr (aN (o.map fun v=>(rowA a v).map (idxU o))) (if o.length=0 then 0 else 1) 0,.arr (aJ (o.map fun v=>a.ac.getD v.toNat false)) (if o.length=0 then 0 else 1) 0]:=by
 obtain⟨sa,wa,a1,a2,a3⟩:=bQ ha;have hal:=sa.1;intro j
 induction j with
 |zero=>
  intro i m d b len e hi hm hd hb hlen he;obtain _|m:=m;omega;obtain rfl:i=o.length:=by omega
  rw[Cr]at hd hb;subst hd;subst hb;subst hlen;subst he;simp -implicitDefEqProofs (maxSteps:=2000000) (disch:=try exact Dz) only[↓DN,↓kRet,UP,simprocAttr,Aj,xT,xN,Tryz.f73]
 |succ j ih=>
  intro i m d b len e hi hm hd hb hlen he;obtain _|m:=m;omega;subst hlen;have hio:i<o.length:=by omega
  have hmem:=sZ hio;obtain⟨v0,v1⟩:=hor _ hmem;have hin1:=hin _ hmem;have hrl:=(I4 ha (i:=(o.getD i 0).toNat) (by omega)).1;have hll:=b9 a.al
  have htk:o.take (i+1)=o.take i++[o.getD i 0]:=by
   rw[List.take_add_one,Ae hio,Aa,Ae hio];rfl
  have hdl:d.length=i:=by rw[hd,Ay,Bt];omega
  have hbl:b.length=i:=by rw[hb,Ay,Bt];omega
  have ih':=ih (i+1) m (d++[(rowA a (o.getD i 0)).map (idxU o)]) (b++[a.ac.getD (o.getD i 0).toNat false]) (i+1) 1 (by omega) (by omega) (by rw[htk,hd,Dl];rfl) (by rw[htk,hb,Dl];rfl) rfl (by rw[if_neg (by omega)]);rw[cs1 i]at ih';have loop_c:=fun {R:Type} {n:Nat} {d e:Nat} {cn cs2:List D} {k:KE R} (hn:3<=n)=> @aA8 R L n hn hL a o i (o.getD i 0) hio rfl v0 v1 (by unfold rowA;omega) (by omega) (by omega) hin1 al2 d e cn cs2 k (rowA a (o.getD i 0)).length 0 L [] 0 (by omega) (by unfold rowA;omega) rfl (by unfold rowA;rw[Ac];omega);rw[Bc]at loop_c;simp only[Aq,Am,oK]at loop_c;have hc:(i:Int)<o.length:=by omega
  have hi0:(0:Int)<=i:=by omega
  have hrl2:((rowA a (o.getD i 0)).map (idxU o)).length<=6:=by rw[Ay];unfold rowA;omega
  clear ih hin hor hin1 hmem hd hb htk;generalize(rowA a (o.getD i 0)).map (idxU o)=w at *;generalize rowA a (o.getD i 0)=w0 at *;generalize hv:o.getD i 0=v at *;have hvk:v.toNat<a.nx.length:=by omega
  have hva:v.toNat<a.ac.length:=by omega
  have hva2:v<a.ac.length:=by omega
  have ht:(aN d).take i=aN d:=B5 (by omega);have ht2:(aJ b).take i=aJ b:=sS (by omega);have hwt:(ints w).take w.length=ints w:=by rw[eS (Ab _)]
  have hi12:i<=12:=by omega
  by_cases hz:i=0
  ·obtain rfl:e=0:=by rw[he,if_pos hz]
   clear he hz;simp -implicitDefEqProofs (maxSteps:=2000000) (disch:=try exact Dz) only[↓DN,↓kAsg,↓kRet,UP,simprocAttr,LA,hc,hi0,hv,v0,hva2,↓loop_c,ht,ht2,hwt,TU,Y0,↓ih',xT,xN,Tryz.f73]
  ·obtain rfl:e=1:=by rw[he,if_neg hz]
   clear he hz;simp -implicitDefEqProofs (maxSteps:=2000000) (disch:=try exact Dz) only[↓DN,↓kAsg,↓kRet,UP,simprocAttr,LA,hc,hi0,hv,v0,hva2,↓loop_c,ht,ht2,hwt,TU,Y0,↓ih',xT,xN,Tryz.f73]
theorem YT(hn:6<=n)(a:Aut)(ha:AOK a)(hL:2^60<=L):aA env L n 73 [.agg [nI a.al,.d (.ivs a.nx.length (aN a.nx)),.d (.ivs a.ac.length (aJ a.ac))]] []=some (.agg [.d (.int .i64 (dK a).al),.d (.ivs (dK a).nx.length (aN (dK a).nx)),.d (.ivs (dK a).ac.length (aJ (dK a).ac))],[]):=by
 obtain⟨sa,wa,a1,a2,a3⟩:=bQ ha;obtain⟨W,hB⟩:=sL ha;have hl:=jD hB.nod hB.rng;have hp:=hB.pos
 have hin:∀v∈ordA a,∀x∈rowA a v,x∈ordA a:=by
  intro v hv x hx;obtain⟨v0,v1⟩:=hB.rng v hv;rw[<-aDi ha v0 v1]at hx;obtain⟨l,hl,rfl⟩:=Bq.1 hx;exact O2 hB hv hl
 have loop_c:=fun {R n k} hn=> @aCp R L n hn hL a ha (ordA a) (by omega) hB.rng hin a.al k (ordA a).length 0 L [] [] 0 0 (by omega) (by omega) rfl rfl rfl rfl;have kc_o:=@aIy L a ha hL;simp only[Aq,aFM,aP0]at loop_c;rw[if_neg (by omega)]at loop_c;have hx1:(dK a).nx.length=(ordA a).length:=Ay _;have hx2:(dK a).ac.length=(ordA a).length:=Ay _;have hx3:(dK a).al=a.al:=rfl;have e1:((ordA a).map fun v=>(rowA a v).map (idxU (ordA a)))=(dK a).nx:=rfl;have e2:((ordA a).map fun v=>a.ac.getD v.toNat false)=(dK a).ac:=rfl;rw[e1,e2]at loop_c;rw[hx1,hx2,hx3];have ht1:(aN (dK a).nx).take (ordA a).length=aN (dK a).nx:=B5 (by omega);have ht2:(aJ (dK a).ac).take (ordA a).length=aJ (dK a).ac:=sS (by omega);have hr1:(aN (dK a).nx).length=(ordA a).length:=by rw[rG,hx1]
 have hb1:(aJ (dK a).ac).length=(ordA a).length:=by rw[eP,hx2]
 clear hB hin e1 e2;generalize(dK a).nx=w1 at *;generalize(dK a).ac=w2 at *;generalize ordA a=w at *;obtain _|n:=n;omega;simp -implicitDefEqProofs (maxSteps:=2000000) (disch:=try exact Dz) only[↓DN,↓kAsg,↓kRet,UP,simprocAttr,↓kc_o,↓loop_c,ht1,ht2,hr1,hb1,Ab,aJ5,aBk,Tryz.f73]
theorem aJs:type_of% fun {L} a ha hL=>ks fun hn=> @YT L _ hn a ha hL:=fun {L} a ha hL=>ks fun hn=> @YT L _ hn a ha hL
def xJ(x:Aut)(j i:Nat):List Str:=(List.range' i j).map fun q=>txt (accG x (q:Nat)).1
theorem aJo{x:Aut}{j i:Nat}:xJ x (j+1) i=txt (accG x (i:Nat)).1::xJ x j (i+1):=by
 simp[xJ,Do]
theorem aJk{a:Aut}(h:AOK a):xJ (dK a) (dK a).nx.length 0=cH a:=by
 obtain⟨W,hB⟩:=sL h;rw[CJ h hB];have hx1:(dK a).nx.length=(ordA a).length:=Ay _;unfold xJ;rw[hx1,<-List.range_eq_range'];apply List.map_congr_left;intro q hq;unfold accG;rw[if_pos (show dP (dK a).al (dK a).nx (dK a).ac=true from ZN h),aNl h hB (Ci.1 hq)]
def TP(a:Aut):List Str:=if dP a.al a.nx a.ac=true then cH a else []
theorem E7{a:Aut}(h:AOK a):1<=(cH a).length/\(cH a).length<=12:=by
 obtain⟨W,hB⟩:=sL h;obtain⟨sa,wa,a1,a2,a3⟩:=bQ h;have hl:=jD hB.nod hB.rng;have hp:=hB.pos;rw[CJ h hB,Ay,List.length_range];omega
theorem W3(hn:12<=n)(hL:2^60<=L){a:Aut}(ha:AOK a){k:KE R}:∀(q i m:Nat) (o:List Str) (len:Nat) (hq:i+q=a.nx.length) (hm:q<m) (hlen:len=o.length) (ho:o.length+q<=100000),
  aM env (aA env L n) L 0 [] Bz57 (mF 0) (U2 (Z4 (U16 (U8 (U2 ([])))))) m (Y2 (.d .nils::.ptr 0 0 0::.sl 1 0 0 len::nI i::Y16 (Y8 (Y2 ([]))))) [.box [nI a.al,.d (.ivs a.nx.length (aN a.nx)),.d (.ivs a.ac.length (aJ a.ac))],.arr (aL o) 1 0] k
  =k (.exit 0) (Y2 (.d .nils::.ptr 0 0 0::.sl 1 0 0 (o++xJ a q i).length::nI (a.nx.length:Int)::Y16 (Y8 (Y2 ([]))))) [.box [nI a.al,.d (.ivs a.nx.length (aN a.nx)),.d (.ivs a.ac.length (aJ a.ac))],.arr (aL (o++xJ a q i)) 1 0]:=by
 obtain⟨sa,wa,a1,a2,a3⟩:=bQ ha;have hac:a.ac.length<=4294967296:=by omega
 have hal:=sa.1;intro q
 induction q with
 |zero=>
  intro i m o len hq hm hlen ho;obtain _|m:=m;omega;obtain rfl:i=a.nx.length:=by omega
  subst hlen;have e:xJ a 0 a.nx.length=[]:=rfl;rw[e,Ah];simp -implicitDefEqProofs (maxSteps:=2000000) (disch:=try exact Dz) only[↓DN,↓kRet,UP,simprocAttr,Aj,AA,vV,Tryz.f36]
 |succ q ih=>
  intro i m o len hq hm hlen ho;obtain _|m:=m;omega;subst hlen;have hc:(i:Int)<a.nx.length:=by omega
  have kc_s:=@aDc L a i sa hac hL;have ih':=ih (i+1) m (o++[txt (accG a (i:Nat)).1]) (o.length+1) (by omega) (by omega) (by simp) (by simp;omega);rw[cs1 i]at ih';simp only[Ao,Ee]at ih';rw[aJo];clear ih;generalize xJ a q (i+1)=w2 at *;generalize accG a (i:Nat)=r at *;obtain⟨w,b⟩:=r;simp only at kc_s ih'|-;simp -implicitDefEqProofs (maxSteps:=2000000) (disch:=try exact Dz) only[↓DN,↓kRet,UP,simprocAttr,SE,hc,↓kc_s,mK,↓ih',AA,vV,Tryz.f36]
theorem I6(hn:13<=n)(a:Aut)(hs:bF a.nx)(hac:a.ac.length<=4294967296)(hL:2^60<=L):aA env L n 36 [.agg [nI a.al,.d (.ivs a.nx.length (aN a.nx)),.d (.ivs a.ac.length (aJ a.ac))]] []=some (.d (.ivs (TP a).length (aL (TP a))),[]):=by
 have hrl:=hs.1;unfold TP
 cases hv:dP a.al a.nx a.ac with
 |false=>
  simp only[Ak,if_false,Ac,kU];obtain _|n:=n;omega;simp -implicitDefEqProofs (maxSteps:=2000000) (disch:=try exact Dz) only[↓DN,↓kAsg,↓kRet,UP,simprocAttr,↓bR,hv,JZ,A4,Tryz.f36]
 |true=>
  have htr:=ZN (a:=a) hv;obtain⟨sa,wa,a1,a2,a3⟩:=bQ htr;have hl:=E7 (a:=a) hv;have loop_c:=fun {R n k} hn=> @W3 R L n hn hL (dK a) htr k (dK a).nx.length 0 L [] 0 (by omega) (by omega) rfl (by simp;omega);rw[Am,aJk hv]at loop_c;have kc_t:=@aJs L a hv hL;simp only[if_true,Aq,kU]at loop_c|-;have hsn:=sa.1;clear htr wa;generalize(dK a)=x at *;generalize cH a=w at *;have e4:(aL w).take w.length=aL w:=iD (Ab _);obtain _|n:=n;omega;simp -implicitDefEqProofs (maxSteps:=2000000) (disch:=try exact Dz) only[↓DN,↓kAsg,↓kRet,UP,simprocAttr,↓bR,SE,hv,e4,↓kc_t,↓loop_c,JZ,A4,Tryz.f36]
theorem aC0:type_of% fun {L} a hs hac hL=>ks fun hn=> @I6 L _ hn a hs hac hL:=fun {L} a hs hac hL=>ks fun hn=> @I6 L _ hn a hs hac hL
end
section
variable{R:Type}{L n:Nat}
def midS(ls:List Int)(n:Nat):Nat->Nat->List Str->Nat×List Str
 |0,i,o=>(i,o)
 |j+1,i,o=>if i<o.length/\(o.getD i []).length<n then midS ls n j (i+1) (o++chG ls (o.getD i []))else(i,o)
def midT(n i:Nat)(o:List Str):Prop:=i<o.length/\(o.getD i []).length<n
theorem KP{ls:List Int}{n j i:Nat}{o:List Str}(h:¬midT n i o):midS ls n j i o=(i,o):=by
 cases j with
 |zero=>rfl
 |succ j=>exact if_neg h
theorem aKj{ls:List Int}{n j i:Nat}{o:List Str}(h:midT n i o):midS ls n (j+1) i o=midS ls n j (i+1) (o++chG ls (o.getD i [])):=if_pos h
theorem aHl{ls:List Int}{n:Nat}:∀(todo pre acc:List Str) (j:Nat),(∀w∈todo,w.length<n)->midS ls n (todo.length+j) pre.length (pre++todo++acc)=midS ls n j (pre.length+todo.length) (pre++todo++acc++todo.flatMap (chG ls))
 | [],pre,acc,j,_=>by simp
 |w::todo,pre,acc,j,h=>by
  have hg:(pre++w::todo++acc).getD pre.length []=w:=by simp[Aa]
  have hl:pre.length<(pre++w::todo++acc).length:=by simp only[Af,Ad];omega
  rw[show(w::todo).length+j=(todo.length+j)+1 by rw[Ad];omega,aKj ⟨hl,by rw[hg];exact h w Bi⟩,hg];have e1:pre++w::todo++acc++chG ls w=(pre++[w])++todo++(acc++chG ls w):=by simp
  have e2:pre.length+1=(pre++[w]).length:=by rw[Af,Co]
  rw[e1,e2,aHl todo (pre++[w]) (acc++chG ls w) j (fun v hv=>h v (Be _ hv))];have e3:(pre++[w]).length+todo.length=pre.length+(w::todo).length:=by rw[Af,Co,Ad];omega
  rw[e3];simp
theorem aHn{ls:List Int}{n:Nat}:∀(k:Nat),k<=n->∃p,midG ls k=p++lvG ls k/\∀j,midS ls n (p.length+j) 0 [[]]=midS ls n j p.length (midG ls k)
 |0,_=>⟨[],rfl,fun j=>by rw[Ac,Ag];rfl⟩
 |k+1,hk=>by
  obtain⟨p,h1,h2⟩:=aHn (ls:=ls) (n:=n) k (by omega);refine⟨midG ls k,rfl,fun j=> ?_⟩;rw[show(midG ls k).length=p.length+(lvG ls k).length by rw[h1,Af],Nat.add_assoc,h2,h1];have:=aHl (ls:=ls) (n:=n) (lvG ls k) p [] j (fun w hw=>by have:=(GX k w hw).1;omega);rw[Ah]at this;rw[this,<-Af,<-h1];rfl
theorem aKX{ls:List Int}{n:Nat}:∀(s i:Nat) (o:List Str),o.length<=(midS ls n s i o).2.length
 |0,_,_=>Ab _
 |s+1,i,o=>by
  unfold midS
  split
  ·have:=aKX (ls:=ls) (n:=n) s (i+1) (o++chG ls (o.getD i []));rw[Af]at this;omega
  ·exact Ab _
theorem aH3{ls:List Int}{n s:Nat}:∀(t i:Nat) (o:List Str),midS ls n (t+s) i o=midS ls n s (midS ls n t i o).1 (midS ls n t i o).2
 |0,i,o=>by rw[Ag];rfl
 |t+1,i,o=>by
  by_cases h:midT n i o
  ·have e:∀u,midS ls n (u+1) i o=midS ls n u (i+1) (o++chG ls (o.getD i [])):=fun u=>if_pos h;rw[show t+1+s=(t+s)+1 by omega,e,e,aH3 t]
  ·rw[KP h,KP h];exact(KP h).symm
theorem aTS{ls:List Int}{n:Nat}:∃i,midS ls n i 0 [[]]=(i,midG ls n)/\¬midT n i (midG ls n)/\i<=(midG ls n).length/\∀t,t<=i->(midS ls n t 0 [[]]).2.length<=(midG ls n).length:=by
 obtain⟨p,h1,h2⟩:=aHn (ls:=ls) n (Ab _);have h0:=h2 0;rw[Bp]at h0;have h0:midS ls n p.length 0 [[]]=(p.length,midG ls n):=h0;refine⟨p.length,h0,?_,by rw[h1,Af];omega,fun t ht=> ?_⟩
 ·rintro⟨h3,h4⟩;rw[Aa,Ae h3]at h4;have h4:((midG ls n)[p.length]).length<n:=h4
  have h5:(midG ls n)[p.length]∈lvG ls n:=by
   have e:(midG ls n)[p.length]? =(lvG ls n)[0]?:=by
    rw[h1,Bh (Ab _),Br]
   rw[Ae h3]at e;exact Bj e.symm
  have:=(GX n _ h5).1;omega
 ·have:=aH3 (ls:=ls) (n:=n) (s:=p.length-t) t 0 [[]];rw[show t+(p.length-t)=p.length by omega,h0]at this;have h3:=aKX (ls:=ls) (n:=n) (p.length-t) (midS ls n t 0 [[]]).1 (midS ls n t 0 [[]]).2;rw[<-this]at h3;exact h3
theorem SY(hn:2<=n)(hL:2^60<=L){ls:List Int}(hls:∀l∈ls,0<=l/\l<=5)(hl:ls.length<=6){x:Int}{i:Nat}{w:Str}(hw:w.length<=100000){k:KE R}:∀(j q m:Nat) (o:List Str) (len:Nat) (hq:q+j=ls.length) (hm:j<m) (hlen:len=o.length) (ho:o.length+j<=100000) (hi:i<o.length) (hg:o.getD i []=w),
  aM env (aA env L n) L 0 [] Bz12 (eQ 1) (U1 (Z1 (U2 (Z4 (Z1 (U32 (U4 (U2 ([]))))))))) m (Y1 (nI x::Y2 (.d .nils::.sl 0 0 0 len::.d (.ivs ls.length (ints ls))::nI i::nI q::Y32 (Y4 (Y2 ([])))))) [.arr (aL o) 1 0] k
  =k (.exit 2) (Y1 (nI x::Y2 (.d .nils::.sl 0 0 0 (o++chG (ls.drop q) w).length::.d (.ivs ls.length (ints ls))::nI i::nI (ls.length)::Y32 (Y4 (Y2 ([])))))) [.arr (aL (o++chG (ls.drop q) w)) 1 0]:=by
 intro j
 induction j with
 |zero=>
  intro q m o len hq hm hlen ho hi hg;obtain _|m:=m;omega;obtain rfl:q=ls.length:=by omega
  subst hlen;have e:o++chG (ls.drop ls.length) w=o:=by simp[chG]
  rw[e];simp -implicitDefEqProofs (maxSteps:=2000000) (disch:=try exact Dz) only[↓DN,↓kRet,UP,simprocAttr,Aj,B4,yB,Tryz.f38]
 |succ j ih=>
  intro q m o len hq hm hlen ho hi hg;obtain _|m:=m;omega;subst hlen;have hk:q<ls.length:=by omega
  have hc:(q:Int)<ls.length:=by omega
  have hq0:(0:Int)<=q:=by omega
  have hi0:(0:Int)<=i:=by omega
  have hi1:(i:Int)<o.length:=by omega
  have hmem:ls.getD q 0∈ls:=by rw[Aa,Ae hk];exact Az _
  obtain⟨b0,b1⟩:=hls _ hmem
  have e:o++chG (ls.drop q) w=(o++[w++[b7 (ls.getD q 0)]])++chG (ls.drop (q+1)) w:=by
   rw[cI hk (d:=0)];simp[chG]
  have hg2:(o++[w++[b7 (ls.getD q 0)]]).getD i []=w:=by
   rw[Aa,Ba hi,<-Aa,hg]
  have ih':=ih (q+1) m (o++[w++[b7 (ls.getD q 0)]]) (o.length+1) (by omega) (by omega) (by simp) (by simp;omega) (by simp;omega) hg2;rw[cs1 q]at ih';have kc_t:=@LY L (ls.getD q 0) b0 b1;rw[e];clear ih e hg2 hmem hls;generalize hb:ls.getD q 0=b at *;generalize o++[w++[b7 b]]++chG (ls.drop (q+1)) w=z at *;simp -implicitDefEqProofs (maxSteps:=2000000) (disch:=try exact Dz) only[↓DN,↓kRet,UP,simprocAttr,SE,hc,hq0,hi0,hi1,hb,hg,↓kc_t,mK,Br,↓ih',B4,yB,Tryz.f38]
theorem SB(hn:2<=n)(hL:2^60<=L){ls:List Int}(hls:∀l∈ls,0<=l/\l<=5)(hl:ls.length<=6){x:Nat}(hx:x<=1000){k:KE R}:∀(j i m:Nat) (o:List Str) (len:Nat) (hm:j<m) (hlen:len=o.length) (ho:o.length<=90000) (hz:∀t,t<=j->(midS ls x t i o).2.length<=90000) (hstop:¬midT x (midS ls x j i o).1 (midS ls x j i o).2) (hi:i<=90000),
  aM env (aA env L n) L 0 [] Bz12 (eQ 0) Bz40 m (Y1 (nI x::Y2 (.d .nils::.sl 0 0 0 len::.d (.ivs ls.length (ints ls))::nI i::Y32 (Y4 (Y2 (Y1 ([]))))))) [.arr (aL o) 1 0] k
  =k (.exit 0) (Y1 (nI x::Y2 (.d .nils::.sl 0 0 0 (midS ls x j i o).2.length::.d (.ivs ls.length (ints ls))::nI ((midS ls x j i o).1:Int)::Y32 (Y4 (Y2 (Y1 ([]))))))) [.arr (aL (midS ls x j i o).2) 1 0]:=by
 have last:∀(i m:Nat) (o:List Str) (len:Nat),¬midT x i o->0<m->len=o.length->aM env (aA env L n) L 0 [] Bz12 (eQ 0) Bz40 m (Y1 (nI x::Y2 (.d .nils::.sl 0 0 0 len::.d (.ivs ls.length (ints ls))::nI i::Y32 (Y4 (Y2 (Y1 ([]))))))) [.arr (aL o) 1 0] k
  =k (.exit 0) (Y1 (nI x::Y2 (.d .nils::.sl 0 0 0 o.length::.d (.ivs ls.length (ints ls))::nI i::Y32 (Y4 (Y2 (Y1 ([]))))))) [.arr (aL o) 1 0]:=by
  intro i m o len hs hm hlen;obtain _|m:=m;omega;subst hlen;have hi0:(0:Int)<=i:=by omega
  by_cases hc:(i:Int)<o.length
  ·have hw:¬(((o.getD i []).length:Nat):Int)<x:=by
    intro h;exact hs ⟨by omega,by omega⟩
   simp -implicitDefEqProofs (maxSteps:=2000000) (disch:=try exact Dz) only[↓DN,↓kRet,UP,simprocAttr,SE,hc,hi0,hw,sG,qL,Tryz.f38]
  ·simp -implicitDefEqProofs (maxSteps:=2000000) (disch:=try exact Dz) only[↓DN,↓kRet,UP,simprocAttr,hc,sG,qL,Tryz.f38]
 intro j
 induction j with
 |zero=>
  intro i m o len hm hlen ho hz hstop hi;exact last i m o len hstop hm hlen
 |succ j ih=>
  intro i m o len hm hlen ho hz hstop hi
  by_cases hT:midT x i o
  ·have e:∀t,midS ls x (t+1) i o=midS ls x t (i+1) (o++chG ls (o.getD i [])):=fun t=>by
    exact aKj hT
   have z1:=hz 1 (by omega);rw[e 0]at z1;have z1:(o++chG ls (o.getD i [])).length<=90000:=z1;have ih':=ih (i+1) (m-1) (o++chG ls (o.getD i [])) _ (by omega) rfl z1 (fun t ht=>by rw[<-e];exact hz (t+1) (by omega)) (by rw[<-e];exact hstop) (by have:=hT.1;omega);rw[cs1 i]at ih';rw[e j];obtain _|m:=m;omega;subst hlen;have hc:(i:Int)<o.length:=by have:=hT.1;omega
   have hi0:(0:Int)<=i:=by omega
   have hw:(((o.getD i []).length:Nat):Int)<x:=by have:=hT.2;omega
   have loop_c:=fun {R n k} hn=> @SY R L n hn hL ls hls hl (x:Nat) i (o.getD i []) (by omega) k ls.length 0 L o o.length (by omega) (by omega) rfl (by omega) (by omega) rfl;rw[Bc]at loop_c;simp only[Aq,Nat.add_sub_cancel]at loop_c ih';clear ih last hz hstop e z1 hT;generalize midS ls x j (i+1) (o++chG ls (o.getD i []))=z at *;generalize o++chG ls (o.getD i [])=o2 at *;simp -implicitDefEqProofs (maxSteps:=2000000) (disch:=try exact Dz) only[↓DN,↓kAsg,↓kRet,UP,simprocAttr,SE,hc,hi0,hw,↓loop_c,↓ih',sG,qL,Tryz.f38]
  ·rw[KP hT];exact last i m o len hT (by omega) hlen
theorem NA(hn:3<=n)(al:Int)(x:Nat)(hx:x<=3)(hL:2^60<=L):aA env L n 38 [nI al,nI x] []=some (.d (.ivs (midG (aB al) x).length (aL (midG (aB al) x))),[]):=by
 obtain⟨i,h1,h2,h3,h4⟩:=aTS (ls:=aB al) (n:=x);have hl:=b9 al;have hsm:=E9 hl x hx;have loop_c:=fun {R n k} hn=> @SB R L n hn hL (aB al) cQ hl x (by omega) k i 0 L [[]] 1 (by omega) rfl (by simp) (fun t ht=>by have:=h4 t ht;omega) (by rw[h1];exact h2) (by omega);rw[h1]at loop_c;have e1:aL [[]]=[.str []]:=rfl;rw[e1]at loop_c;simp only[Aq]at loop_c;clear h1 h2 h3 h4;generalize midG (aB al) x=w at *;generalize(i:Int)=i at *;have e4:(aL w).take w.length=aL w:=iD (Ab _);obtain _|n:=n;omega;simp -implicitDefEqProofs (maxSteps:=2000000) (disch:=try exact Dz) only[↓DN,↓kAsg,↓kRet,UP,simprocAttr,↓gP,SE,e4,↓loop_c,aD0,RA,Tryz.f38]
theorem aDn:type_of% fun {L} al x hx hL=>ks fun hn=> @NA L _ hn al x hx hL:=fun {L} al x hx hL=>ks fun hn=> @NA L _ hn al x hx hL
theorem K9(hn:3<=n)(v w:List UInt8)(hv:cX v=true)(hw:cX w=true)(hL:2^60<=L):aA env L n 106 [.d (.str v),.d (.str w)] []=some (.d (.bool (decide (cmpX v w<0))),[]):=by
 have e:=AZ (x:=v) (y:=w);have bv:v.length<=50000:=by unfold cX at hv;simp only[Ar,decide_eq_true_eq]at hv;exact hv.1
 have bw:w.length<=50000:=by unfold cX at hw;simp only[Ar,decide_eq_true_eq]at hw;exact hw.1
 by_cases h1:(v.length:Int)<w.length
 ·rw[decide_eq_true (e.2 (.inl (by omega)))];obtain _|n:=n;omega;simp -implicitDefEqProofs (maxSteps:=2000000) (disch:=try exact Dz) only[↓DN,↓kAsg,↓kRet,UP,simprocAttr,↓BE,hv,hw,h1,yR,tC,Tryz.f106]
 ·by_cases h2:(v.length:Int)=w.length
  ·have e2:decide (cmpX v w<0)=Op.bytesLess v w:=by
    cases hb:Op.bytesLess v w with
    |true=>exact decide_eq_true (e.2 (.inr ⟨by omega,hb⟩))
    |false=>
     refine decide_eq_false fun h=> ?_
     rcases e.1 h with h|⟨_,h⟩
     ·omega
     ·rw[hb]at h;cases h
   rw[e2];obtain _|n:=n;omega;simp -implicitDefEqProofs (maxSteps:=2000000) (disch:=try exact Dz) only[↓DN,↓kAsg,↓kRet,UP,simprocAttr,↓BE,hv,hw,h2,Aj,yR,tC,Tryz.f106]
  ·rw[decide_eq_false fun h=>by rcases e.1 h with h|⟨h,_⟩<;>omega];obtain _|n:=n;omega;simp -implicitDefEqProofs (maxSteps:=2000000) (disch:=try exact Dz) only[↓DN,↓kAsg,↓kRet,UP,simprocAttr,↓BE,hv,hw,h1,h2,yR,tC,Tryz.f106]
theorem aCL:type_of% fun {L} v w hv hw hL=>ks fun hn=> @K9 L _ hn v w hv hw hL:=fun {L} v w hv hw hL=>ks fun hn=> @K9 L _ hn v w hv hw hL
theorem aCU(hn:4<=n)(hL:2^60<=L){l:List Str}{w:Str}(hs:m5 l)(hw:cX w=true)(hok:∀x∈l,cX x=true)(hl:l.length<=10000){k:KE R}:∀(j lo hi m:Nat) (hj:hi-lo<=j) (hm:j<m) (h1:lo<=bA l w) (h2:bA l w<=hi) (h3:hi<=l.length),
  aM env (aA env L n) L 0 [] Bz53 (pL 0) (Z2 (U2 (Z2 (Z1 (U16 (U4 ([]))))))) m (.d (.ivs l.length (aL l))::.d (.str w)::Y2 (nI 0::nI lo::nI hi::Y16 (Y4 ([])))) [] k
  =k (.exit 0) (.d (.ivs l.length (aL l))::.d (.str w)::Y2 (nI 0::nI (bA l w:Int)::nI (bA l w:Int)::Y16 (Y4 ([])))) []:=by
 intro j
 induction j with
 |zero=>
  intro lo hi m hj hm h1 h2 h3;obtain _|m:=m;omega;obtain rfl:lo=bA l w:=by omega
  obtain rfl:hi=bA l w:=by omega
  simp -implicitDefEqProofs (maxSteps:=2000000) (disch:=try exact Dz) only[↓DN,↓kRet,UP,simprocAttr,Aj,nB,nH,Tryz.f78]
 |succ j ih=>
  intro lo hi m hj hm h1 h2 h3;obtain _|m:=m;omega
  by_cases hc:(lo:Int)<hi
  ·obtain⟨mid,hmid⟩:∃mid:Nat,mid=(lo+hi)/2:=⟨_,rfl⟩
   have e1:((lo:Int)+(hi:Int)).tdiv 2=(mid:Int):=by
    rw[Eh (by omega)];omega
   have hk:mid<l.length:=by omega
   have hm1:(mid:Int)<l.length:=by omega
   have hm0:(0:Int)<=mid:=by omega
   have hx:cX (l.getD mid [])=true:=by
    rw[Aa,Ae hk];exact hok _ (Az _)
   have kc_b:=@aCL L (l.getD mid []) w hx hw hL;have hp:=wZ hs w mid hk;have hg:l[mid]=l.getD mid []:=by rw[Aa,Ae hk];rfl
   rw[hg]at hp;have hlo:(lo:Int)<=10000:=by omega
   have hhi:(hi:Int)<=10000:=by omega
   by_cases hb:cmpX (l.getD mid []) w<0
   ·have ih':=ih (mid+1) hi m (by omega) (by omega) (by have:=hp.1 hb;omega) h2 h3;rw[cs1 mid]at ih';rw[decide_eq_true hb]at kc_b;clear ih hok hp hg hb hx hs;generalize hgx:l.getD mid []=x at *;simp -implicitDefEqProofs (maxSteps:=2000000) (disch:=try exact Dz) only[↓DN,↓kRet,UP,simprocAttr,SE,hc,e1,hm1,hm0,hgx,↓kc_b,↓ih',nB,nH,Tryz.f78]
   ·have ih':=ih lo mid m (by omega) (by omega) h1 (by have:=mt hp.2 hb;omega) (by omega);rw[decide_eq_false hb]at kc_b;clear ih hok hp hg hb hx hs;generalize hgx:l.getD mid []=x at *;simp -implicitDefEqProofs (maxSteps:=2000000) (disch:=try exact Dz) only[↓DN,↓kRet,UP,simprocAttr,SE,hc,e1,hm1,hm0,hgx,↓kc_b,↓ih',nB,nH,Tryz.f78]
  ·obtain rfl:lo=bA l w:=by omega
   obtain rfl:hi=bA l w:=by omega
   clear ih;simp -implicitDefEqProofs (maxSteps:=2000000) (disch:=try exact Dz) only[↓DN,↓kRet,UP,simprocAttr,hc,nB,nH,Tryz.f78]
theorem QG(hn:5<=n)(l:List Str)(w:List UInt8)(hs:m5 l)(hw:cX w=true)(hok:∀x∈l,cX x=true)(hl:l.length<=10000)(hL:2^60<=L):aA env L n 78 [.d (.ivs l.length (aL l)),.d (.str w)] []=some (nI (bA l w),[]):=by
 have loop_c:=fun {R n k} hn=> @aCU R L n hn hL l w hs hw hok hl k l.length 0 l.length L (by omega) (by omega) (by omega) aEy (by omega);simp only[Aq]at loop_c;obtain _|n:=n;omega;simp -implicitDefEqProofs (maxSteps:=2000000) (disch:=try exact Dz) only[↓DN,↓kAsg,↓kRet,UP,simprocAttr,↓loop_c,aGa,VL,Tryz.f78]
theorem aGg:type_of% fun {L} l w hs hw hok hl hL=>kt fun hn=> @QG L _ hn l w hs hw hok hl hL:=fun {L} l w hs hw hok hl hL=>kt fun hn=> @QG L _ hn l w hs hw hok hl hL
theorem yH{L:Nat}{id0 g0 o0 len0:Nat}{w:List UInt8}:KV L 78 [.sl id0 g0 o0 len0,.d (.str w)]:=fun _ _ _ _=>dU y6
theorem aGl(hn:1<=n){l:List Str}{w:Str}{p:Nat}(hl:l.length<=10000)(hp:p<=l.length){k:KE R}:∀(j i m:Nat) (y:Str) (o:List Str) (len:Nat) (hi:i=p+j) (hil:i<=l.length) (hm:j<m) (ho:o=l.take i++y::l.drop i) (hlen:len=l.length+1),
  aM env (aA env L n) L (1) [] Bz52 (uL 0) (Z2 (U2 (Z2 (Z1 (U32 (U8 ([]))))))) m (.sl 0 1 0 len::.d (.str w)::Y2 (.d .nils::nI p::nI i::Y32 (Y8 ([])))) [.arr (aL o) 1 1] k
  =k (.exit 0) (.sl 0 1 0 len::.d (.str w)::Y2 (.d .nils::nI p::nI p::Y32 (Y8 ([])))) [.arr (aL (l.take p++(if j=0 then y else l.getD p [])::l.drop p)) 1 1]:=by
 intro j
 induction j with
 |zero=>
  intro i m y o len hi hil hm ho hlen;obtain _|m:=m;omega;obtain rfl:i=p:=by omega
  rw[if_pos rfl,<-ho];simp -implicitDefEqProofs (maxSteps:=2000000) (disch:=try exact Dz) only[↓DN,↓kRet,UP,simprocAttr,Aj,KW,HL,Tryz.f39]
 |succ j ih=>
  intro i m y o len hi hil hm ho hlen;obtain _|m:=m;omega;have hc:(p:Int)<i:=by omega
  have hi0:(0:Int)<=i:=by omega
  have hi1:(0:Int)<=(i:Int)-1:=by omega
  have hib:(i:Int)<=10000:=by omega
  have hol:o.length=l.length+1:=by rw[ho,Af,Bt,Ad,Cg];omega
  have hlo:len=o.length:=by omega
  have hio:i<o.length:=by omega
  have hio1:(i:Int)<o.length:=by omega
  have hio2:(i:Int)-1<o.length:=by omega
  have e1:((i:Int)-1).toNat=i-1:=by omega
  have hg:o.getD (i-1) []=l.getD (i-1) []:=by
   rw[ho,Aa,Ba (by rw[Bt];omega),Cz,if_pos (by omega),<-Aa]
  have hd:l.drop (i-1)=l.getD (i-1) []::l.drop i:=by
   rw[cI (i:=i-1) (by omega) (d:=[]),show i-1+1=i by omega]
  have hset:o.set i (l.getD (i-1) [])=l.take (i-1)++l.getD (i-1) []::l.drop (i-1):=by
   rw[ho,Dp _ _ (by rw[Bt];omega),show i-(l.take i).length=0 by rw[Bt];omega,Cf,hd]
   have:l.take i=l.take (i-1)++[l.getD (i-1) []]:=by
    obtain⟨q,rfl⟩:∃q,i=q+1:=⟨i-1,by omega⟩
    rw[Nat.add_sub_cancel,List.take_add_one,Ae (by omega),Aa,Ae (by omega)];rfl
   rw[this,Ao];rfl
  have ih':=ih (i-1) m (l.getD (i-1) []) (o.set i (l.getD (i-1) [])) len (by omega) (by omega) (by omega) hset hlen;rw[show((i-1:Nat):Int)=(i:Int)-1 by omega]at ih'
  have hy:(if j=0 then l.getD (i-1) []else l.getD p [])=l.getD p []:=by
   split
   ·rw[show i-1=p by omega]
   ·rfl
  rw[hy]at ih';rw[if_neg (by omega)];clear ih hd hset hy ho;generalize l.take p++l.getD p []::l.drop p=z at *;generalize hgx:l.getD (i-1) []=x at *;simp -implicitDefEqProofs (maxSteps:=2000000) (disch:=try exact Dz) only[↓DN,↓kRet,UP,simprocAttr,SE,hc,hi0,hi1,e1,hg,↓aDP,↓ih',KW,HL,Tryz.f39]
theorem aJG(hn:6<=n)(hL:2^60<=L)(l:List Str)(w:Str)(hs:m5 l)(hw:cX w=true)(hok:∀x∈l,cX x=true)(hl:l.length<=10000):aA env L n 39 [.sl 0 0 0 l.length,.d (.str w)] [.arr (aL l) 1 0]=some (.sl 0 (if w∈l then 0 else 1) 0 (ordW l w).length,[.arr (aL (ordW l w)) 1 (if w∈l then 0 else 1)]):=by
 have kl_p:=@aGg L l w hs hw hok hl hL;have hat:=aMn hs w;have hle:=aEy (ws:=l) (w:=w);have hp0:(0:Int)<=(bA l w:Nat):=by omega
 have ht:(aL l).take l.length=aL l:=iD (Ab _);unfold ordW
 by_cases hin:w∈l
 ·obtain⟨h1,h2⟩:=hat.2 hin;have h1:((bA l w:Nat):Int)<l.length:=by omega
  simp only[if_pos hin];clear hat hok hs;generalize bA l w=p at *;obtain _|n:=n;omega;simp -implicitDefEqProofs (maxSteps:=2000000) (disch:=try exact Dz) only[↓DN,↓kAsg,↓kRet,UP,simprocAttr,↓yH,SE,↓kl_p,h1,h2,hp0,L4,FO,Tryz.f39]
 ·simp only[if_neg hin]
  have hlen:(l.take (bA l w)++w::l.drop (bA l w)).length=l.length+1:=by
   rw[Af,Bt,Ad,Cg];omega
  rw[hlen];have loop_c:=fun {R n k} hn=> @aGl R L n hn l w (bA l w) hl hle k (l.length-bA l w) l.length L [] (l++[[]]) (l.length+1) (by omega) (by omega) (by omega) (by rw[Cr,Ca]) rfl
  have hset:∀y,(l.take (bA l w)++y::l.drop (bA l w)).set (bA l w) w=l.take (bA l w)++w::l.drop (bA l w):=by
   intro y;rw[Dp _ _ (by rw[Bt];omega),show bA l w-(l.take (bA l w)).length=0 by rw[Bt];omega];rfl
  have hyl:∀y,(l.take (bA l w)++y::l.drop (bA l w)).length=l.length+1:=by
   intro y;rw[Af,Bt,Ad,Cg];omega
  have hset:=hset (if l.length-bA l w=0 then []else l.getD (bA l w) []);have hyl:=hyl (if l.length-bA l w=0 then []else l.getD (bA l w) []);have h3:(l.length:Int)+1-1=l.length:=by omega
  have h4:((l.length+1:Nat):Int)-1=l.length:=by omega
  have hpl:(bA l w:Nat)<l.length+1:=by omega
  have hpl2:((bA l w:Nat):Int)<(l.length+1:Nat):=by omega
  by_cases h1:((bA l w:Nat):Int)<l.length
  ·have h2:(l.getD (bA l w) []==w)=false:=by
    have:¬l.getD (bA l w) []=w:=fun h=>hin (hat.1 ⟨by omega,h⟩)
    simpa using this
   clear hat hok hs hlen;generalize l.take (bA l w)++(if l.length-bA l w=0 then []else l.getD (bA l w) [])::l.drop (bA l w)=z at *;generalize l.take (bA l w)++w::l.drop (bA l w)=z2 at *;generalize bA l w=p at *;obtain _|n:=n;omega;simp -implicitDefEqProofs (maxSteps:=2000000) (disch:=try exact Dz) only[↓DN,↓kAsg,↓kRet,UP,simprocAttr,↓yH,SE,↓kl_p,h1,h2,h4,hp0,ht,hpl2,hset,mK,↓aDP,↓loop_c,L4,FO,Tryz.f39]
  ·clear hat hok hs hlen;generalize l.take (bA l w)++(if l.length-bA l w=0 then []else l.getD (bA l w) [])::l.drop (bA l w)=z at *;generalize l.take (bA l w)++w::l.drop (bA l w)=z2 at *;generalize bA l w=p at *;obtain _|n:=n;omega;simp -implicitDefEqProofs (maxSteps:=2000000) (disch:=try exact Dz) only[↓DN,↓kAsg,↓kRet,UP,simprocAttr,↓yH,SE,↓kl_p,h1,h4,hp0,ht,hpl2,hset,mK,↓aDP,↓loop_c,L4,FO,Tryz.f39]
structure Sok(o:List Str):Prop where
 s:m5 o
 n:o.length<=3000
 w:∀x∈o,cX x=true
theorem aAP{f:Str->List Str->Bool×List Str}{ws:List Str}{P:List Str->Prop}(hf:∀w∈ws,∀o,P o->(f w o).1=true->P (f w o).2):∀(j q:Nat) (o:List Str),q+j=ws.length->P o->(run3 f ws j q o).1=true->P (run3 f ws j q o).2.2
 |0,_,_,_,ho,_=>ho
 |j+1,q,o,hq,ho,h=>by
  have hk:q<ws.length:=by omega
  have hm:ws.getD q []∈ws:=by rw[Aa,Ae hk];exact Az _
  cases hb:(f (ws.getD q []) o).1 with
  |false=>rw[F7 hb]at h;cases h
  |true=>
   rw[BI hb]at h|-;exact aAP hf j (q+1) _ (by omega) (hf _ hm o ho hb) h
theorem aRq{o:List Str}{w x:Str}(h:x∈ordW o w):x∈o\/x=w:=aH1.1 ((ZP (List.Perm.refl o) w).mem_iff.1 h)
theorem aH6{c m:Str}{ends:List Str}(hw:∀e∈ends,cX (c++m++e)=true):∀e∈ends,∀o,Sok o->(endS c m e o).1=true->Sok (endS c m e o).2:=by
 intro e he o ho h;unfold endS at h|-;simp only[Cx,decide_eq_false_iff_not]at h;refine⟨aFw ho.s _,Nat.le_of_not_lt h,fun x hx=> ?_⟩
 rcases aRq hx with hx|rfl
 ·exact ho.w x hx
 ·exact hw e he
theorem aH0{c:Str}{mids ends:List Str}(hw:∀m∈mids,∀e∈ends,cX (c++m++e)=true):∀m∈mids,∀o,Sok o->(midZ c ends m o).1=true->Sok (midZ c ends m o).2:=
 fun m hm o ho h=>aAP (aH6 (hw m hm)) ends.length 0 o (by omega) ho h
theorem cU{l:List Str}{k:Nat}(h:k<l.length):l.getD k []∈l:=by
 rw[Aa,Ae h];exact Az _
structure Parts(cov mids ends:List Str):Prop where
 w:∀c∈cov,∀m∈mids,∀e∈ends,cX (c++m++e)=true
 c:∀c∈cov,c.length<=1000
 m:∀c∈mids,c.length<=1000
 e:∀c∈ends,c.length<=1000
 nc:cov.length<=1000
 nm:mids.length<=1000
 ne:ends.length<=1000
theorem aU1{k:KA R}(hn:6<=n)(hL:2^60<=L)(o:List Str)(w:Str)(ho:Sok o)(hw:cX w=true):a6 env (aA env L n) [.arr (aL o) 1 0] 39 [.sl 0 0 0 o.length,.d (.str w)] k=k (.sl 0 (if w∈o then 0 else 1) 0 (ordW o w).length) [.arr (aL (ordW o w)) 1 (if w∈o then 0 else 1)]:=
 OH (h:=[.arr (aL o) 1 0]) (k:=k) (id:=0) (g2:=if w∈o then 0 else 1) (len:=(ordW o w).length) (cs2:=aL (ordW o w)) (e2:=1) rfl rfl EG (aJG hn hL o w ho.s hw ho.w (by have:=ho.n;omega))
theorem ST(hn:7<=n)(hL:2^60<=L){cov mids ends:List Str}(hP:Parts cov mids ends){i q:Nat}(hi:i<cov.length)(hq:q<mids.length){k:KE R}:∀(j p m:Nat) (o:List Str) (len:Nat) (hp:p+j=ends.length) (hm:j<m) (hlen:len=o.length) (ho:Sok o),
  aM env (aA env L n) L 0 [] Bz11 (dE 2) (U4 (Z8 (Z1 (U32 (U16 (U8 (U2 (U1 ([]))))))))) m (Y4 (.d .nils::.d (.bool false)::.d (.ivs cov.length (aL cov))::.d (.ivs ends.length (aL ends))::.d (.ivs mids.length (aL mids))::.sl 0 0 0 len::nI i::nI q::nI p::Y32 (Y16 (Y8 (Y2 (Y1 ([]))))))) [.arr (aL o) 1 0] k
  =k (if(run3 (endS (cov.getD i []) (mids.getD q [])) ends j p o).1=true then .exit 4 else .ret) (Y4 (.d .nils::.d (.bool false)::.d (.ivs cov.length (aL cov))::.d (.ivs ends.length (aL ends))::.d (.ivs mids.length (aL mids))::.sl 0 0 0 (run3 (endS (cov.getD i []) (mids.getD q [])) ends j p o).2.2.length::nI i::nI q::nI ((run3 (endS (cov.getD i []) (mids.getD q [])) ends j p o).2.1:Int)::Y32 (Y16 (Y8 (Y2 (Y1 ([]))))))) [.arr (aL (run3 (endS (cov.getD i []) (mids.getD q [])) ends j p o).2.2) 1 0]:=by
 intro j
 induction j with
 |zero=>
  intro p m o len hp hm hlen ho;obtain _|m:=m;omega;obtain rfl:p=ends.length:=by omega
  subst hlen;have e:∀f,run3 f ends 0 ends.length o=(true,ends.length,o):=fun _=>rfl;rw[e];simp only[if_true];simp -implicitDefEqProofs (maxSteps:=2000000) (disch:=try exact Dz) only[↓DN,↓kRet,UP,simprocAttr,Aj,r5,qG,Tryz.f10]
 |succ j ih=>
  intro p m o len hp hm hlen ho;obtain _|m:=m;omega;subst hlen;have hpe:p<ends.length:=by omega
  have hc1:(p:Int)<ends.length:=by omega
  have hc2:(i:Int)<cov.length:=by omega
  have hc3:(q:Int)<mids.length:=by omega
  have hp0:(0:Int)<=p:=by omega
  have hi0:(0:Int)<=i:=by omega
  have hq0:(0:Int)<=q:=by omega
  have hw:=hP.w _ (cU hi) _ (cU hq) _ (cU hpe);have hcl:=hP.c _ (cU hi);have hml:=hP.m _ (cU hq);have hel:=hP.e _ (cU hpe);have hcm:(cov.getD i []++mids.getD q []).length<=2000:=by rw[Af];omega
  have hinv:=aH6 (ends:=ends) (hP.w _ (cU hi) _ (cU hq)) _ (cU hpe) o ho;have hol:=ho.n;have hne:=hP.ne;have kc_p:=fun {R n k} hn=> @aU1 R L n k hn hL o (cov.getD i []++mids.getD q []++ends.getD p []) ho hw;have hb:(endS (cov.getD i []) (mids.getD q []) (ends.getD p []) o)=(!decide (3000<(ordW o (cov.getD i []++mids.getD q []++ends.getD p [])).length),ordW o (cov.getD i []++mids.getD q []++ends.getD p [])):=rfl;have hz:=(aRw (ws:=o) (w:=cov.getD i []++mids.getD q []++ends.getD p [])).2
  by_cases hb1:3000<(ordW o (cov.getD i []++mids.getD q []++ends.getD p [])).length
  ·have hb2:(3000:Int)<(ordW o (cov.getD i []++mids.getD q []++ends.getD p [])).length:=by omega
   rw[F7 (by rw[hb,decide_eq_true hb1];rfl),hb];simp only[Ak,if_false];clear ih hinv hb hw ho hP;generalize(if cov.getD i []++mids.getD q []++ends.getD p []∈o then 0 else 1)=g at *;generalize ordW o (cov.getD i []++mids.getD q []++ends.getD p [])=o2 at *;generalize hci:cov.getD i []=c at *;generalize hmi:mids.getD q []=mm at *;generalize hei:ends.getD p []=e at *;simp -implicitDefEqProofs (maxSteps:=2000000) (disch:=try exact Dz) only[↓DN,↓kAsg,↓kRet,UP,simprocAttr,SE,hc1,hc2,hc3,hp0,hi0,hq0,hb2,hci,hmi,hei,↓kc_p,Br,r5,qG,Tryz.f10]
  ·have hb2:¬(3000:Int)<(ordW o (cov.getD i []++mids.getD q []++ends.getD p [])).length:=by omega
   rw[BI (by rw[hb,decide_eq_false hb1];rfl),hb];have ih':=ih (p+1) m _ _ (by omega) (by omega) rfl (hinv (by rw[hb,decide_eq_false hb1];rfl));rw[hb]at ih';rw[cs1 p]at ih';simp only at ih'|-;clear ih hinv hb hw ho hP;generalize(if cov.getD i []++mids.getD q []++ends.getD p []∈o then 0 else 1)=g at *;generalize ordW o (cov.getD i []++mids.getD q []++ends.getD p [])=o2 at *;generalize run3 (endS (cov.getD i []) (mids.getD q [])) ends j (p+1) o2=z at *;generalize hci:cov.getD i []=c at *;generalize hmi:mids.getD q []=mm at *;generalize hei:ends.getD p []=e at *;simp -implicitDefEqProofs (maxSteps:=2000000) (disch:=try exact Dz) only[↓DN,↓kRet,UP,simprocAttr,SE,hc1,hc2,hc3,hp0,hi0,hq0,hb2,hci,hmi,hei,↓kc_p,Br,↓ih',r5,qG,Tryz.f10]
theorem U6(hn:7<=n)(hL:2^60<=L){cov mids ends:List Str}(hP:Parts cov mids ends){i:Nat}(hi:i<cov.length){k:KE R}:∀(j p m:Nat) (o:List Str) (len:Nat) (hp:p+j=mids.length) (hm:j<m) (hlen:len=o.length) (ho:Sok o),
  aM env (aA env L n) L 0 [] Bz11 (dE 1) (U4 (Z8 (U32 (U16 (U8 (U4 ([]))))))) m (Y4 (.d .nils::.d (.bool false)::.d (.ivs cov.length (aL cov))::.d (.ivs ends.length (aL ends))::.d (.ivs mids.length (aL mids))::.sl 0 0 0 len::nI i::nI p::Y32 (Y16 (Y8 (Y4 ([])))))) [.arr (aL o) 1 0] k
  =k (if(run3 (midZ (cov.getD i []) ends) mids j p o).1=true then .exit 2 else .ret) (Y4 (.d .nils::.d (.bool false)::.d (.ivs cov.length (aL cov))::.d (.ivs ends.length (aL ends))::.d (.ivs mids.length (aL mids))::.sl 0 0 0 (run3 (midZ (cov.getD i []) ends) mids j p o).2.2.length::nI i::nI ((run3 (midZ (cov.getD i []) ends) mids j p o).2.1:Int)::Y32 (Y16 (Y8 (Y4 ([])))))) [.arr (aL (run3 (midZ (cov.getD i []) ends) mids j p o).2.2) 1 0]:=by
 intro j
 induction j with
 |zero=>
  intro p m o len hp hm hlen ho;obtain _|m:=m;omega;obtain rfl:p=mids.length:=by omega
  subst hlen;have e:∀f,run3 f mids 0 mids.length o=(true,mids.length,o):=fun _=>rfl;rw[e];simp only[if_true];simp -implicitDefEqProofs (maxSteps:=2000000) (disch:=try exact Dz) only[↓DN,↓kRet,UP,simprocAttr,Aj,rI,qP,Tryz.f10]
 |succ j ih=>
  intro p m o len hp hm hlen ho;obtain _|m:=m;omega;subst hlen;have hpm:p<mids.length:=by omega
  have hc1:(p:Int)<mids.length:=by omega
  have hmn:=hP.nm;have hne:=hP.ne;have loop_c:=fun {R n k} hn=> @ST R L n hn hL cov mids ends hP i p hi hpm k ends.length 0 L o o.length (by omega) (by omega) rfl ho;simp only[Aq]at loop_c;have hinv:=aH0 (fun m hm=>hP.w _ (cU hi) m hm) _ (cU hpm) o ho;have hz:midZ (cov.getD i []) ends (mids.getD p []) o=((run3 (endS (cov.getD i []) (mids.getD p [])) ends ends.length 0 o).1,(run3 (endS (cov.getD i []) (mids.getD p [])) ends ends.length 0 o).2.2):=rfl
  cases hb:(run3 (endS (cov.getD i []) (mids.getD p [])) ends ends.length 0 o).1 with
  |false=>
   rw[F7 (by rw[hz,hb]),hz];rw[hb]at loop_c;simp only[Ak,if_false]at loop_c|-;clear ih hinv hz hb ho hP;generalize run3 (endS (cov.getD i []) (mids.getD p [])) ends ends.length 0 o=z at *;simp -implicitDefEqProofs (maxSteps:=2000000) (disch:=try exact Dz) only[↓DN,↓kAsg,↓kRet,UP,simprocAttr,hc1,↓loop_c,rI,qP,Tryz.f10]
  |true=>
   rw[BI (by rw[hz,hb]),hz];have ih':=ih (p+1) m _ _ (by omega) (by omega) rfl (hinv (by rw[hz,hb]));rw[hz,cs1 p]at ih';rw[hb]at loop_c;simp only[if_true]at loop_c ih'|-;clear ih hinv hz hb ho hP;generalize run3 (endS (cov.getD i []) (mids.getD p [])) ends ends.length 0 o=z at *;generalize run3 (midZ (cov.getD i []) ends) mids j (p+1) z.2.2=z2 at *;simp -implicitDefEqProofs (maxSteps:=2000000) (disch:=try exact Dz) only[↓DN,↓kAsg,↓kRet,UP,simprocAttr,hc1,↓loop_c,↓ih',rI,qP,Tryz.f10]
theorem S9(hn:7<=n)(hL:2^60<=L){cov mids ends:List Str}(hP:Parts cov mids ends){k:KE R}:∀(j p m:Nat) (o:List Str) (len:Nat) (hp:p+j=cov.length) (hm:j<m) (hlen:len=o.length) (ho:Sok o),
  aM env (aA env L n) L 0 [] Bz11 (dE 0) (U4 (Z4 (Z2 (Z1 (U32 (U16 (U8 (U4 (U1 ([])))))))))) m (Y4 (.d .nils::.d (.bool false)::.d (.ivs cov.length (aL cov))::.d (.ivs ends.length (aL ends))::.d (.ivs mids.length (aL mids))::.sl 0 0 0 len::nI p::Y32 (Y16 (Y8 (Y4 (Y1 ([]))))))) [.arr (aL o) 1 0] k
  =k (if(run3 (covZ mids ends) cov j p o).1=true then .exit 0 else .ret) (Y4 (.d .nils::.d (.bool false)::.d (.ivs cov.length (aL cov))::.d (.ivs ends.length (aL ends))::.d (.ivs mids.length (aL mids))::.sl 0 0 0 (run3 (covZ mids ends) cov j p o).2.2.length::nI ((run3 (covZ mids ends) cov j p o).2.1:Int)::Y32 (Y16 (Y8 (Y4 (Y1 ([]))))))) [.arr (aL (run3 (covZ mids ends) cov j p o).2.2) 1 0]:=by
 intro j
 induction j with
 |zero=>
  intro p m o len hp hm hlen ho;obtain _|m:=m;omega;obtain rfl:p=cov.length:=by omega
  subst hlen;have e:∀f,run3 f cov 0 cov.length o=(true,cov.length,o):=fun _=>rfl;rw[e];simp only[if_true];simp -implicitDefEqProofs (maxSteps:=2000000) (disch:=try exact Dz) only[↓DN,↓kRet,UP,simprocAttr,Aj,rL,qQ,Tryz.f10]
 |succ j ih=>
  intro p m o len hp hm hlen ho;obtain _|m:=m;omega;subst hlen;have hpm:p<cov.length:=by omega
  have hc1:(p:Int)<cov.length:=by omega
  have hmn:=hP.nm;have hcn:=hP.nc;have loop_c:=fun {R n k} hn=> @U6 R L n hn hL cov mids ends hP p hpm k mids.length 0 L o o.length (by omega) (by omega) rfl ho;simp only[Aq]at loop_c;have hinv:(covZ mids ends (cov.getD p []) o).1=true->Sok (covZ mids ends (cov.getD p []) o).2:=aAP (aH0 (fun m hm=>hP.w _ (cU hpm) m hm)) mids.length 0 o (by omega) ho;have hz:covZ mids ends (cov.getD p []) o=((run3 (midZ (cov.getD p []) ends) mids mids.length 0 o).1,(run3 (midZ (cov.getD p []) ends) mids mids.length 0 o).2.2):=rfl
  cases hb:(run3 (midZ (cov.getD p []) ends) mids mids.length 0 o).1 with
  |false=>
   rw[F7 (by rw[hz,hb]),hz];rw[hb]at loop_c;simp only[Ak,if_false]at loop_c|-;clear ih hinv hz hb ho hP;generalize run3 (midZ (cov.getD p []) ends) mids mids.length 0 o=z at *;simp -implicitDefEqProofs (maxSteps:=2000000) (disch:=try exact Dz) only[↓DN,↓kAsg,↓kRet,UP,simprocAttr,hc1,↓loop_c,rL,qQ,Tryz.f10]
  |true=>
   rw[BI (by rw[hz,hb]),hz];have ih':=ih (p+1) m _ _ (by omega) (by omega) rfl (hinv (by rw[hz,hb]));rw[hz,cs1 p]at ih';rw[hb]at loop_c;simp only[if_true]at loop_c ih'|-;clear ih hinv hz hb ho hP;generalize run3 (midZ (cov.getD p []) ends) mids mids.length 0 o=z at *;generalize run3 (covZ mids ends) cov j (p+1) z.2.2=z2 at *;simp -implicitDefEqProofs (maxSteps:=2000000) (disch:=try exact Dz) only[↓DN,↓kAsg,↓kRet,UP,simprocAttr,hc1,↓loop_c,↓ih',rL,qQ,Tryz.f10]
def iU(a:Aut)(x:Int):Option (List Str):=if dP a.al a.nx a.ac=true/\0<=x/\x<=2 then rR (cH a) (midG (aB a.al) (x.toNat+1)) (sepW a)else none
theorem Z9{a:Aut}(h:AOK a){e:Nat}(he:e<=2):Parts (cH a) (midG (aB a.al) (e+1)) (sepW a):=by
 obtain⟨_,_,a1,a2,_⟩:=bQ h;have ha:=(kX h).2.2.2;have h1:=E7 h;have h2:=OO h;have h3:=E9 (b9 a.al) (e+1) (by omega);exact⟨fun c hc m hm w hw=>((aI2 h hc hm hw).ok ha (by omega)).2,fun c hc=>by have:=(aOZ h c hc).1;omega,fun c hc=>by have:=(aQj c hc).1;omega,fun c hc=>by have:=(aOs h c hc).1;omega,by omega,by omega,by omega⟩
theorem MF(hn:15<=n)(a:Aut)(x:Int)(hs:bF a.nx)(hac:a.ac.length<=4294967296)(hL:2^60<=L):aA env L n 10 [.agg [nI a.al,.d (.ivs a.nx.length (aN a.nx)),.d (.ivs a.ac.length (aJ a.ac))],nI x] []=some (.tup [.d (.ivs ((iU a x).getD []).length (aL ((iU a x).getD []))),.d (.bool (iU a x).isSome)],[]):=by
 have hrl:=hs.1
 cases hv:dP a.al a.nx a.ac with
 |false=>
  have e:iU a x=none:=if_neg fun h=>by rw[hv]at h;cases h.1
  rw[e];simp only[Dj,Cn,Ac,kU];obtain _|n:=n;omega;simp -implicitDefEqProofs (maxSteps:=2000000) (disch:=try exact Dz) only[↓DN,↓kAsg,↓kRet,UP,simprocAttr,↓bR,hv,n4,lV,Tryz.f10]
 |true=>
  by_cases hx0:x<0
  ·have e:iU a x=none:=if_neg fun h=>by omega
   rw[e];simp only[Dj,Cn,Ac,kU];obtain _|n:=n;omega;simp -implicitDefEqProofs (maxSteps:=2000000) (disch:=try exact Dz) only[↓DN,↓kAsg,↓kRet,UP,simprocAttr,↓bR,hv,hx0,n4,lV,Tryz.f10]
  ·by_cases hx1:2<x
   ·have e:iU a x=none:=if_neg fun h=>by omega
    rw[e];simp only[Dj,Cn,Ac,kU];obtain _|n:=n;omega;simp -implicitDefEqProofs (maxSteps:=2000000) (disch:=try exact Dz) only[↓DN,↓kAsg,↓kRet,UP,simprocAttr,↓bR,hv,hx0,hx1,n4,lV,Tryz.f10]
   ·obtain⟨e,rfl⟩:∃e:Nat,x=e:=⟨x.toNat,by omega⟩
    have he:e<=2:=by omega
    have hP:=Z9 (a:=a) hv he;have e1:iU a e=rR (cH a) (midG (aB a.al) (e+1)) (sepW a):=if_pos ⟨hv,by omega,by omega⟩;have e2:TP a=cH a:=by unfold TP;exact if_pos hv
    have e3:sepR a=sepW a:=by unfold sepR;exact if_pos hv
    have kc_c:=@aC0 L a hs hac hL;have kc_w:=@OF L a hs hac hL;have kc_m:=@aDn L a.al (e+1) (by omega) hL;rw[e2]at kc_c;rw[e3]at kc_w;rw[cs1 e]at kc_m;have hcn:=hP.nc;have loop_c:=fun {R n k} hn=> @S9 R L n hn hL _ _ _ hP k (cH a).length 0 L [] 0 (by omega) (by omega) rfl ⟨List.Pairwise.nil,by simp,by simp⟩;have hr:=OW (f:=covZ (midG (aB a.al) (e+1)) (sepW a)) (ws:=cH a) (cH a).length 0 [] (by omega);rw[Bc,aTr]at hr;have hr:rR (cH a) (midG (aB a.al) (e+1)) (sepW a)=_:=hr;rw[e1];simp only[Aq,kU]at loop_c;generalize rR (cH a) (midG (aB a.al) (e+1)) (sepW a)=S at *;clear hP e1 e2 e3;generalize cH a=cov at *;generalize midG (aB a.al) (e+1)=mids at *;generalize sepW a=ends at *;generalize run3 (covZ mids ends) cov cov.length 0 []=z at *
    cases hb:z.1 with
    |false=>
     rw[hb,if_neg Bool.false_ne_true]at hr;rw[hr];rw[hb]at loop_c;simp only[Dj,Cn,Ac,kU,Ak,if_false]at loop_c|-;obtain _|n:=n;omega;simp -implicitDefEqProofs (maxSteps:=2000000) (disch:=try exact Dz) only[↓DN,↓kAsg,↓kRet,UP,simprocAttr,↓bR,hv,hx0,hx1,↓kc_c,↓kc_w,↓kc_m,↓loop_c,n4,lV,Tryz.f10]
    |true=>
     rw[hb,if_pos rfl]at hr;rw[hr];rw[hb]at loop_c;simp only[Bb,Db,if_true]at loop_c|-;have e4:(aL z.2.2).take z.2.2.length=aL z.2.2:=iD (Ab _);obtain _|n:=n;omega;simp -implicitDefEqProofs (maxSteps:=2000000) (disch:=try exact Dz) only[↓DN,↓kAsg,↓kRet,UP,simprocAttr,↓bR,SE,hv,hx0,hx1,e4,↓kc_c,↓kc_w,↓kc_m,↓loop_c,n4,lV,Tryz.f10]
theorem aDz:type_of% fun {L} a x hs hac hL=>ks fun hn=> @MF L _ hn a x hs hac hL:=fun {L} a x hs hac hL=>ks fun hn=> @MF L _ hn a x hs hac hL
end
theorem aAZ:∀l:List Str,DE (aL l)=some l
 | []=>rfl
 |s::l=>by
  show(DE (aL l)).map (s::·)=_;rw[aAZ l];rfl
theorem aLy{a:Aut}{j i:Nat}(h:(oneG a (i:Nat)).2=true):iB a (j+1) i=txt (oneG a (i:Nat)).1::iB a j (i+1):=by
 simp[iB,Do,h]
theorem aLx{a:Aut}{j i:Nat}(h:(oneG a (i:Nat)).2=false):iB a (j+1) i=iB a j (i+1):=by
 simp[iB,Do,h]
theorem aOj(l:List Str):(aBj l).length=l.length:=List.length_mergeSort _
theorem aLj{l:List Str}(hl:l.length<=4294967296):GM 34 [.sl 0 0 0 l.length,.clo 34 []] [.arr (aL l) 1 0]=some (.tup [],[.arr (aL (aBj l)) 1 0]):=by
 have h1:True/\True/\True/\(l.length=0\/True)/\l.length<=(aL l).length/\l.length<=bK:=by
  refine⟨trivial,trivial,trivial,.inr trivial,by rw[eN];omega,by unfold bK;omega⟩
 have h2:DE ((aL l).take l.length)=some l:=by rw[iD (Ab _),aAZ]
 have h3:(aL l).drop l.length=[]:=by rw[aLE,Ca];rfl
 simp only[GM,Ce];rw[if_pos h1];simp only[h2,h3,Ah,Cf];rfl
theorem vS{R:Type}{L n id:Nat}{hq:H}{k:KA R}(hn:1<=n)(l:List Str)(hi:hq[id]? =some (.arr (aL l) 1 0))(hl:l.length<=4294967296):
  a6 env (aA env L n) hq 45 [.sl id 0 0 l.length,.clo 34 []] k=k (.tup []) (hq.set id (.arr (aL (aBj l)) 1 0)):=by
 obtain _|n:=n;omega;exact UL hi (by simp[idsL,idsA]) fQ (by simp[idsA,idsL]) (by rw[tZ];simpa [aE,mapA,aH]using aLj hl)
theorem WW{R:Type}{L n:Nat}(hn:9<=n)(hL:2^60<=L){a:Aut}(ha:AOK a){k:KE R}:∀(q i m:Nat) (o:List Str) (len:Nat) (hq:i+q=a.nx.length) (hm:q<m) (hlen:len=o.length) (ho:o.length+q<=100000),
  aM env (aA env L n) L 0 [0,0,0,2] Bz44 (mG 0) (U1 (Z2 (Z1 (U8 (Z2 (U16 (U1 ([])))))))) m (Y1 (.ptr 0 0 0::.d .nils::.sl 1 0 0 len::Y8 (nI (a.nx.length)::nI i::Y16 (Y1 ([]))))) [.box [nI a.al,.d (.ivs a.nx.length (aN a.nx)),.d (.ivs a.ac.length (aJ a.ac))],.arr (aL o) 1 0] k
  =k (.exit 0) (Y1 (.ptr 0 0 0::.d .nils::.sl 1 0 0 (o++iB a q i).length::Y8 (nI (a.nx.length)::nI (a.nx.length:Int)::Y16 (Y1 ([]))))) [.box [nI a.al,.d (.ivs a.nx.length (aN a.nx)),.d (.ivs a.ac.length (aJ a.ac))],.arr (aL (o++iB a q i)) 1 0]:=by
 obtain⟨sa,wa,a1,a2,a3⟩:=bQ ha;have hac:a.ac.length<=4294967296:=by omega
 have hal:=sa.1;intro q
 induction q with
 |zero=>
  intro i m o len hq hm hlen ho;obtain _|m:=m;omega;obtain rfl:i=a.nx.length:=by omega
  subst hlen;have e:iB a 0 a.nx.length=[]:=rfl;rw[e,Ah];simp -implicitDefEqProofs (maxSteps:=2000000) (disch:=try exact Dz) only[↓DN,↓kRet,UP,simprocAttr,Aj,pX,oW,Tryz.f14]
 |succ q ih=>
  intro i m o len hq hm hlen ho;obtain _|m:=m;omega;subst hlen;have hc:(i:Int)<a.nx.length:=by omega
  have kc_s:=@aBy L a i sa hac hL;have hacc:accG a (i:Nat)=oneG a (i:Nat):=by unfold accG;exact if_pos ha
  rw[hacc]at kc_s
  cases hb:(oneG a (i:Nat)).2 with
  |false=>
   have ih':=ih (i+1) m o o.length (by omega) (by omega) rfl (by omega);rw[cs1 i]at ih';rw[aLx hb];rw[hb]at kc_s;clear ih;generalize iB a q (i+1)=w2 at *;generalize txt (oneG a (i:Nat)).1=w at *;simp -implicitDefEqProofs (maxSteps:=2000000) (disch:=try exact Dz) only[↓DN,↓kRet,UP,simprocAttr,hc,↓kc_s,↓ih',pX,oW,Tryz.f14]
  |true=>
   have ih':=ih (i+1) m (o++[txt (oneG a (i:Nat)).1]) (o.length+1) (by omega) (by omega) (by simp) (by simp;omega);rw[cs1 i]at ih';simp only[Ao,Ee]at ih';rw[aLy hb];rw[hb]at kc_s;clear ih;generalize iB a q (i+1)=w2 at *;generalize txt (oneG a (i:Nat)).1=w at *;simp -implicitDefEqProofs (maxSteps:=2000000) (disch:=try exact Dz) only[↓DN,↓kRet,UP,simprocAttr,SE,hc,↓kc_s,mK,↓ih',pX,oW,Tryz.f14]
theorem JT{L n:Nat}(hn:10<=n)(a:Aut)(hv:AOK a)(hL:2^60<=L):aA env L n 14 [.agg [nI a.al,.d (.ivs a.nx.length (aN a.nx)),.d (.ivs a.ac.length (aJ a.ac))]] []=some (.sl 0 0 0 (cH a).length,[.arr (aL (cH a)) 1 0]):=by
 obtain⟨sa,wa,a1,a2,a3⟩:=bQ hv;have hrl:=sa.1;have hac:a.ac.length<=4294967296:=by omega
 have loop_c:=fun {R n k} hn=> @WW R L n hn hL a hv k a.nx.length 0 L [] 0 (by omega) (by omega) rfl (by simp;omega);rw[Am]at loop_c;have hcs:=aMa hv;have hl:=E7 hv;have hl2:=aOj (iB a a.nx.length 0);rw[hcs]at hl2;have hl3:(iB a a.nx.length 0).length<=4294967296:=by omega
 simp only[Aq,kU]at loop_c;rw[<-hl2]at loop_c;have kc_q:=fun {R:Type} {n id:Nat} {hq:H} {k:KA R} (hn:1<=n) (hi:hq[id]? =some (.arr (aL (iB a a.nx.length 0)) 1 0))=> @vS R L n id hq k hn (iB a a.nx.length 0) hi hl3;rw[hcs,<-hl2]at kc_q;unfold AOK at hv;clear hcs;generalize iB a a.nx.length 0=w0 at *;generalize cH a=w at *;have e4:(aL w).take w.length=aL w:=iD (Ab _);obtain _|n:=n;omega;simp -implicitDefEqProofs (maxSteps:=2000000) (disch:=try exact Dz) only[↓DN,↓kAsg,↓kRet,UP,simprocAttr,↓bT,hv,↓loop_c,↓kc_q,aBc,M3,Tryz.f14]
section
variable{R:Type}{L n:Nat}
theorem aDw(hn:1<=n){l:List Str}(hl:l.length<=4294967296){k:KE R}:∀(i:Int) (m:Nat) (h0:0<=i) (hi:i<=l.length) (hm:(l.length:Int)-i<m),
  aM env (aA env L n) L 0 [] Bz56 (sE 0) (Z2 (U2 (Z2 (U16 (U4 ([])))))) m (.d (.ivs l.length (aL l))::.d (.ivs l.length (aL l))::Y2 (.d (.bool false)::nI i::Y16 (Y4 ([])))) [] k
  =k (.exit 0) (.d (.ivs l.length (aL l))::.d (.ivs l.length (aL l))::Y2 (.d (.bool false)::nI (l.length)::Y16 (Y4 ([])))) []:=by
 intro i m h0 hi hm;obtain⟨j,hj⟩:∃j:Nat,(j:Int)=(l.length:Int)-i:=⟨((l.length:Int)-i).toNat,by omega⟩
 induction j generalizing i m with
 |zero=>
  obtain _|m:=m;omega;obtain rfl:i=l.length:=by omega
  simp -implicitDefEqProofs (maxSteps:=2000000) (disch:=try exact Dz) only[↓DN,↓kRet,UP,simprocAttr,Aj,IQ,D5,Tryz.f11]
 |succ j ih=>
  obtain _|m:=m;omega;have hc:i<l.length:=by omega
  have hk:i.toNat<l.length:=by omega
  simp -implicitDefEqProofs (maxSteps:=2000000) (disch:=try exact Dz) only[↓DN,↓kRet,UP,simprocAttr,SE,hc,↓ih,IQ,D5,Tryz.f11]
theorem yW(hn:2<=n)(l:List Str)(hl:l.length<=4294967296)(hL:2^60<=L):aA env L n 11 [.d (.ivs l.length (aL l)),.d (.ivs l.length (aL l))] []=some (.d (.bool true),[]):=by
 obtain _|n:=n;omega;simp -implicitDefEqProofs (maxSteps:=2000000) (disch:=try exact Dz) only[↓DN,↓kAsg,↓kRet,UP,simprocAttr,↓aDw,aI9,XN,Tryz.f11]
theorem aHC:type_of% fun {L} l hl hL=>ks fun hn=> @yW L _ hn l hl hL:=fun {L} l hl hL=>ks fun hn=> @yW L _ hn l hl hL
theorem aIB:type_of% fun {L} l hl hL=>kt fun hn=> @yW L _ hn l hl hL:=fun {L} l hl hL=>kt fun hn=> @yW L _ hn l hl hL
theorem aDo{L:Nat}{id0 g0 o0 len0:Nat}{l:List Str}:KV L 11 [.sl id0 g0 o0 len0,.d (.ivs l.length (aL l))]:=fun _ _ _ _=>dU BB
theorem aDl(hn:1<=n){l:List Str}{v:Str}(hl:l.length<=4294967296){k:KE R}:∀(j i m:Nat) (hi:i+j=l.length) (hm:j<m),
  aM env (aA env L n) L 0 [] Bz14 (rJ 0) Bz43 m (.d (.ivs l.length (aL l))::.d (.str v)::Y2 (.d (.bool false)::nI i::Y8 (Y4 ([])))) [] k
  =match seek (fN l v) j i with
   |none=>k (.exit 0) (.d (.ivs l.length (aL l))::.d (.str v)::Y2 (.d (.bool false)::nI (l.length)::Y8 (Y4 ([])))) []
   |some q=>k .ret (.d (.ivs l.length (aL l))::.d (.str v)::Y2 (.d (.bool true)::nI q::Y8 (Y4 ([])))) []:=by
 intro j
 induction j with
 |zero=>
  intro i m hi hm;obtain _|m:=m;omega;obtain rfl:i=l.length:=by omega
  simp -implicitDefEqProofs (maxSteps:=2000000) (disch:=try exact Dz) only[↓DN,↓kRet,UP,simprocAttr,Aj,vU,u7,Tryz.f17];rfl
 |succ j ih=>
  intro i m hi hm;obtain _|m:=m;omega;have hc:(i:Int)<l.length:=by omega
  have hk:i<l.length:=by omega
  have hi0:(0:Int)<=i:=by omega
  by_cases h1:l.getD i []=v
  ·have hb:fN l v i=true:=by unfold fN;rw[decide_eq_true h1]
   rw[kH hb];clear ih;simp -implicitDefEqProofs (maxSteps:=2000000) (disch:=try exact Dz) only[↓DN,↓kAsg,↓kRet,UP,simprocAttr,SE,hc,hi0,h1,vU,u7,Tryz.f17]
  ·have hb:fN l v i=false:=by unfold fN;rw[decide_eq_false h1]
   rw[mQ hb];have ih':=ih (i+1) m (by omega) (by omega);rw[cs1 i]at ih';have h2:(l.getD i []==v)=false:=by simpa using h1
   clear ih;simp -implicitDefEqProofs (maxSteps:=2000000) (disch:=try exact Dz) only[↓DN,↓kRet,UP,simprocAttr,SE,hc,hi0,h2,↓ih',vU,u7,Tryz.f17]
theorem R1(hn:2<=n)(l:List Str)(v:List UInt8)(hl:l.length<=4294967296)(hL:2^60<=L):aA env L n 17 [.d (.ivs l.length (aL l)),.d (.str v)] []=some (.d (.bool (decide (v∈l))),[]):=by
 have loop_c:=fun {R n k} hn=> @aDl R L n hn l v hl k l.length 0 L (by omega) (by omega);rw[<-UF];simp only[Aq]at loop_c
 cases hs:seek (fN l v) l.length 0 with
 |none=>
  rw[hs]at loop_c;simp only[Cn];obtain _|n:=n;omega;simp -implicitDefEqProofs (maxSteps:=2000000) (disch:=try exact Dz) only[↓DN,↓kAsg,UP,simprocAttr,↓loop_c,VF,LZ,Tryz.f17]
 |some q=>
  rw[hs]at loop_c;simp only[Db];obtain _|n:=n;omega;simp -implicitDefEqProofs (maxSteps:=2000000) (disch:=try exact Dz) only[↓DN,↓kAsg,UP,simprocAttr,↓loop_c,VF,LZ,Tryz.f17]
theorem R4:type_of% fun {L} l v hl hL=>kt fun hn=> @R1 L _ hn l v hl hL:=fun {L} l v hl hL=>kt fun hn=> @R1 L _ hn l v hl hL
theorem MV{L:Nat}{id0 g0 o0 len0:Nat}{v:List UInt8}:KV L 17 [.sl id0 g0 o0 len0,.d (.str v)]:=fun _ _ _ _=>dU BA
theorem OT{R:Type}{E:Env}{call:aZ}{h h2:H}{f:FuncId}{args:List A}{r:A}{k:KA R}(hs:args.all qH=true)(hm:(E.hint f).mode=3)(hc:call f args []=some (r,h2))(hcl:(lP r&&h2.all kI)=true):
  a6 E call h f args k=k (mapA (back [] h.length h2.length) r) (h++h2.map (mapO (back [] h.length h2.length))):=by
 have hcall:b8 call E.hint [] f args=some (mapA (back [] 0 h2.length) r,h2.map (mapO (back [] 0 h2.length))):=by
  unfold b8;rw[hm];simp only[uE hs,hc,hcl,if_true,Ac,Am]
 unfold a6;rw[xY hs,FN,iT _ (xY hs)];have:pack h []=[]:=rfl;rw[this,hcall]
 have hb:∀i,(back [] 0 h2.length i).bind (back [] h.length h2.length)=back [] h.length h2.length i:=by
  intro i;unfold back;simp only[Ac,Bw,if_false,Nat.sub_zero,Ag]
  split
  ·rename_i hi;simp[hi]
  ·rfl
 simp only[Ac,Nat.zero_le,true_and,closed,Cb,Bu,if_true,bG,Ay];rw[aFL hb,List.map_map]
 congr 2
 apply List.map_congr_left;intro o _;exact aPe hb o
theorem aCn(l:List Str):kI (.arr (aL l) 1 0)=true:=by
 simp only[kI,aL,List.all_map,Bf];intro x _;rfl
theorem BP{R:Type}{E:Env}{call:aZ}{h:H}{f:FuncId}{args:List A}{l:List Str}{k:KA R}(hs:args.all qH=true)(hm:(E.hint f).mode=3)(hc:call f args []=some (.sl 0 0 0 l.length,[.arr (aL l) 1 0])):
  a6 E call h f args k=k (.sl h.length 0 0 l.length) (h++[.arr (aL l) 1 0]):=by
 rw[OT hs hm hc (by simp only[lP,Bs,Cb,aCn,Bu])];simp[mapA,back,mapO]
end
section
variable{R:Type}{L n:Nat}
theorem aLk{l:Int}{h:H}:fC env.P h 5 21 (.d (.int .u8 ((b7 l).toNat:Int)))=some (.d (.int .i32 ((b7 l).toNat:Int)),h):=by
 have e:IntKind.i32.wrap ((b7 l).toNat:Int)=((b7 l).toNat:Int):=IntWalk.i32_in _ (by have:=toNat_lt (b7 l);constructor<;>omega);have hu:env.P.underlying 21=some (.int .i32):=kr;rw[xB WS hu,e]
theorem aLR{l:Int}(h0:0<=l)(h5:l<=5){h:H}:fC env.P h 21 9 (.d (.int .i32 ((b7 l).toNat:Int)))=some (.d (.str [b7 l]),h):=by
 have hu:env.P.underlying 21=some (.int .i32):=kr;have hs:env.P.underlying 9=some .string:=kr
 have e:(Utf8.encode ((b7 l).toNat:Int)).data.toList=[b7 l]:=by
  rcases(show l=0\/l=1\/l=2\/l=3\/l=4\/l=5 by omega)with rfl|rfl|rfl|rfl|rfl|rfl<;>kernel_rfl
 unfold fC;rw[hu,hs];simp only[e]
theorem VX(hn:2<=n)(hL:2^60<=L){ls:List Int}(hls:∀l∈ls,0<=l/\l<=5)(hl:ls.length<=6){al x:Int}{f e c p:Nat}{w:Str}(hw:w.length<=100000){k:KE R}:∀(j q m:Nat) (o:List Str) (len g:Nat) (hq:q+j=ls.length) (hm:j<m) (hlen:len=o.length) (hg:g=o.length+1) (ho:o.length+j<=100000),
  aM env (aA env L n) L 0 (W8 (W4 [2002])) Bz5 (dC 2) (Z2 (U2 (Z4 (U1 (Z1 (U8 (U4 (Z2 (Z1 (U4 (Z2 (Z1 (U16 ([])))))))))))))) m (nI al::nI x::Y2 (.d .nils::.sl 0 g 0 len::nI f::nI e::Y1 (.d (.str w)::Y8 (Y4 (.sl 0 (e+1) f c::nI c::nI p::Y4 (.d (.ivs ls.length (ints ls))::nI (ls.length:Int)::nI q::Y16 ([]))))))) [.log (aL o)] k
  =k (.exit 4) (nI al::nI x::Y2 (.d .nils::.sl 0 ((o++chG (ls.drop q) w).length+1) 0 (o++chG (ls.drop q) w).length::nI f::nI e::Y1 (.d (.str w)::Y8 (Y4 (.sl 0 (e+1) f c::nI c::nI p::Y4 (.d (.ivs ls.length (ints ls))::nI (ls.length:Int)::nI (ls.length:Int)::Y16 ([]))))))) [.log (aL (o++chG (ls.drop q) w))]:=by
 intro j
 induction j with
 |zero=>
  intro q m o len g hq hm hlen hg ho;obtain _|m:=m;omega;obtain rfl:q=ls.length:=by omega
  subst hlen;subst hg;have e:o++chG (ls.drop ls.length) w=o:=by simp[chG]
  rw[e];simp -implicitDefEqProofs (maxSteps:=2000000) (disch:=try exact Dz) only[↓DN,↓kRet,UP,simprocAttr,Aj,C8,yF,Tryz.f31]
 |succ j ih=>
  intro q m o len g hq hm hlen hg ho;obtain _|m:=m;omega;subst hlen;subst hg;have hk:q<ls.length:=by omega
  have hc:(q:Int)<ls.length:=by omega
  have hq0:(0:Int)<=q:=by omega
  have hmem:ls.getD q 0∈ls:=by rw[Aa,Ae hk];exact Az _
  obtain⟨b0,b1⟩:=hls _ hmem
  have e:o++chG (ls.drop q) w=(o++[w++[b7 (ls.getD q 0)]])++chG (ls.drop (q+1)) w:=by
   rw[cI hk (d:=0)];simp[chG]
  have ih':=ih (q+1) m (o++[w++[b7 (ls.getD q 0)]]) (o.length+1) (o.length+1+1) (by omega) (by omega) (by simp) (by simp) (by simp;omega);rw[cs1 q]at ih';rw[e];clear ih e hmem hls;generalize hb:ls.getD q 0=b at *;have kc_t:=@J6 L b b0 b1;have conv_r:=fun {h:H}=> @aLR b b0 b1 h;generalize o++[w++[b7 b]]++chG (ls.drop (q+1)) w=z at *;have hol:(aL o).length=o.length:=eN;simp -implicitDefEqProofs (maxSteps:=2000000) (disch:=try exact Dz) only[↓DN,↓kRet,UP,simprocAttr,hc,hq0,hb,hol,↓kc_t,↓aLk,↓conv_r,mK,↓ih',C8,yF,Tryz.f31]
theorem SA(hn:2<=n)(hL:2^60<=L){al x:Int}{f e c:Nat}{vs:List Str}(hv:vs.length=c)(hvw:∀w∈vs,w.length<=100000)(hfe:f+c=e)(he:e<=1000000000){k:KE R}:∀(j p m:Nat) (o:List Str) (len g:Nat) (hp:p+j=c) (hm:j<m) (hlen:len=o.length) (hg:g=o.length+1) (ho:o.length+6*j<=90000) (hoe:e<=o.length) (hod:∀i,i<c->o.getD (f+i) []=vs.getD i []),
  aM env (aA env L n) L 0 (W8 (W4 [2002])) Bz5 (dC 1) (Z2 (U2 (Z4 (U8 (U4 (U2 (Z2 (Z1 (U16 (U4 (U2 (U1 ([]))))))))))))) m (nI al::nI x::Y2 (.d .nils::.sl 0 g 0 len::nI f::nI e::Y8 (Y4 (Y2 (.sl 0 (e+1) f c::nI c::nI p::Y16 (Y4 (Y2 (Y1 ([]))))))))) [.log (aL o)] k
  =k (.exit 2) (nI al::nI x::Y2 (.d .nils::.sl 0 ((o++(vs.drop p).flatMap (chG (aB al))).length+1) 0 (o++(vs.drop p).flatMap (chG (aB al))).length::nI f::nI e::Y8 (Y4 (Y2 (.sl 0 (e+1) f c::nI c::nI c::Y16 (Y4 (Y2 (Y1 ([]))))))))) [.log (aL (o++(vs.drop p).flatMap (chG (aB al))))]:=by
 have hl6:=b9 al;intro j
 induction j with
 |zero=>
  intro p m o len g hp hm hlen hg ho hoe hod;obtain _|m:=m;omega;obtain rfl:p=c:=by omega
  subst hlen;subst hg;have e:o++(vs.drop p).flatMap (chG (aB al))=o:=by rw[List.drop_of_length_le (by omega)];simp
  rw[e];simp -implicitDefEqProofs (maxSteps:=2000000) (disch:=try exact Dz) only[↓DN,↓kRet,UP,simprocAttr,Aj,C4,xI,Tryz.f31]
 |succ j ih=>
  intro p m o len g hp hm hlen hg ho hoe hod;obtain _|m:=m;omega;subst hlen;subst hg;have hk:p<vs.length:=by omega
  have hc:(p:Int)<c:=by omega
  have hp0:(0:Int)<=p:=by omega
  have hw:=hvw _ (cU hk)
  have hgd:(((aL o).drop (f+p)).take 1)=[.str (vs.getD p [])]:=by
   have:=hod p (by omega);have hlt:f+p<o.length:=by omega
   have h1:(aL o).drop (f+p)=.str (o.getD (f+p) [])::(aL o).drop (f+p+1):=by
    rw[Dq (by rw[eN];exact hlt)]
    congr 1
    simp[aL,Aa,Ae hlt]
   rw[h1,this];rfl
  have loop_c:=fun {R n k} hn=> @VX R L n hn hL (aB al) cQ hl6 al x f e c p (vs.getD p []) hw k (aB al).length 0 L o o.length (o.length+1) (by omega) (by omega) rfl rfl (by omega);rw[Bc]at loop_c;simp only[Aq]at loop_c;have hcl:(chG (aB al) (vs.getD p [])).length<=6:=by rw[aKg];exact hl6
  have he2:o++(vs.drop p).flatMap (chG (aB al))=(o++chG (aB al) (vs.getD p []))++(vs.drop (p+1)).flatMap (chG (aB al)):=by
   rw[cI hk (d:=[]),List.flatMap_cons,Ao]
  have ih':=ih (p+1) m (o++chG (aB al) (vs.getD p [])) _ _ (by omega) (by omega) rfl rfl (by rw[Af];omega) (by rw[Af];omega) (fun i hi=>by
   rw[<-hod i hi,Aa,Ba (by omega),<-Aa])
  rw[cs1 p]at ih';rw[he2];have hol:(aL o).length=o.length:=eN;have hg0:0<e+1:=by omega
  have hg1:e+1<=o.length+1:=by omega
  clear ih he2 hod hvw;generalize vs.getD p []=w at *;generalize o++chG (aB al) w++(vs.drop (p+1)).flatMap (chG (aB al))=z at *;generalize o++chG (aB al) w=o2 at *;have hf1:f+p+1<e+1:=by omega
  simp -implicitDefEqProofs (maxSteps:=2000000) (disch:=try exact Dz) only[↓DN,↓kRet,UP,simprocAttr,↓lF,hc,hp0,hol,hgd,hg0,hg1,hf1,↓loop_c,↓ih',C4,xI,Tryz.f31]
theorem aOe{o:List Str}{f c:Nat}(hf:f<=o.length)(hc:o.length-f=c):iN env.P [.log (aL o)] 29 (.sl 0 (o.length+1) 0 o.length) (some (f:Int)) (some (o.length:Int))=some (.sl 0 (o.length+1) f c):=by
 have hu:env.P.underlying 29=some (.slice 9):=kr;have hs:env.P.cellsOf 9=1:=kr
 have hb:pV o.length (some (f:Int)) (some (o.length:Int))=some (f,o.length):=by
  unfold pV;simp only[Bb];rw[if_pos ⟨by omega,by omega,by omega⟩];simp
 have h1:0<o.length+1/\o.length+1<=(aL o).length+1/\True:=⟨by omega,by rw[eN];omega,trivial⟩
 simp only[iN,hu,Ce,hs,hb,Ax,hc,Ag];rw[if_pos h1]
theorem TM(hn:3<=n)(hL:2^60<=L){al:Int}{k:KE R}:∀(j t m:Nat) (o:List Str) (len g f:Nat) (ht:t+j<=3) (hm:j<m) (hlen:len=o.length) (hg:g=o.length+1) (ho:o=midG (aB al) t) (hf:f+(lvG (aB al) t).length=o.length),
  aM env (aA env L n) L 0 (W8 (W4 [2002])) Bz5 (dC 0) (Z2 (U2 (Z2 (Z1 (U32 (U8 (U1 ([])))))))) m (nI al::nI j::Y2 (.d .nils::.sl 0 g 0 len::nI f::Y32 (Y8 (Y1 ([]))))) [.log (aL o)] k
  =k (.exit 0) (nI al::nI 0::Y2 (.d .nils::.sl 0 ((midG (aB al) (t+j)).length+1) 0 (midG (aB al) (t+j)).length::nI (((midG (aB al) (t+j)).length-(lvG (aB al) (t+j)).length:Nat):Int)::Y32 (Y8 (Y1 ([]))))) [.log (aL (midG (aB al) (t+j)))]:=by
 have hl6:=b9 al;intro j
 induction j with
 |zero=>
  intro t m o len g f ht hm hlen hg ho hf;obtain _|m:=m;omega;subst hlen;subst hg;rw[show t+0=t from rfl,<-ho,show o.length-(lvG (aB al) t).length=f by omega];clear ho hf;simp -implicitDefEqProofs (maxSteps:=2000000) (disch:=try exact Dz) only[↓DN,↓kRet,UP,simprocAttr,Aj,CZ,xR,Tryz.f31]
 |succ j ih=>
  intro t m o len g f ht hm hlen hg ho hf;obtain _|m:=m;omega;subst hlen;subst hg;have hs:=E9 hl6 t (by omega);have hs2:=E9 hl6 (t+1) (by omega);have hsp:midG (aB al) (t+1)=o++lvG (aB al) (t+1):=by rw[ho];rfl
  have hol:o.length<=259:=by rw[ho];exact hs
  obtain⟨p,hp⟩:=aN6 (ls:=aB al) t;rw[<-ho]at hp;have hpl:p.length=f:=by have:=congrArg List.length hp;rw[Af]at this;omega
  have hod:∀i,i<(lvG (aB al) t).length->o.getD (f+i) []=(lvG (aB al) t).getD i []:=by
   intro i hi;rw[hp,Aa,Bh (by omega),show f+i-p.length=i by omega,<-Aa]
  have loop_c:=fun {R n k} hn=> @SA R L n hn hL al ((j+1:Nat):Int) f o.length (lvG (aB al) t).length (lvG (aB al) t) rfl (fun w hw=>by have:=(GX t w hw).1;omega) hf (by omega) k (lvG (aB al) t).length 0 L o o.length (o.length+1) (by omega) (by omega) rfl rfl (by omega) (by omega) hod;rw[Bc]at loop_c;have e1:o++(lvG (aB al) t).flatMap (chG (aB al))=midG (aB al) (t+1):=by rw[hsp];rfl
  rw[e1]at loop_c;have ih':=ih (t+1) m (midG (aB al) (t+1)) _ _ o.length (by omega) (by omega) rfl rfl rfl (by rw[hsp,Af]);rw[show t+1+j=t+(j+1) by omega]at ih';have e2:((j+1:Nat):Int)-1=(j:Int):=by omega
  have hj1:(0:Int)<((j+1:Nat):Int):=by omega
  have hj2:((j+1:Nat):Int)<=3:=by omega
  simp only[Aq]at loop_c;have hfo:(f:Int)<=o.length:=by omega
  have hf0:(0:Int)<=f:=by omega
  have hsub:o.length-f=(lvG (aB al) t).length:=by omega
  have hol2:(aL o).length=o.length:=eN;have hfn:f<=o.length:=by omega
  clear ih hod hp hsp e1 ho;generalize midG (aB al) (t+1)=o2 at *;generalize(midG (aB al) (t+(j+1))).length-(lvG (aB al) (t+(j+1))).length=zf at *;generalize midG (aB al) (t+(j+1))=z at *;generalize(lvG (aB al) t).length=c at *;generalize((j+1:Nat):Int)=x at *;have conv_s:=@aOe o f c hfn hsub;simp -implicitDefEqProofs (maxSteps:=2000000) (disch:=try exact Dz) only[↓DN,↓kRet,UP,simprocAttr,hj1,↓conv_s,e2,↓loop_c,↓ih',CZ,xR,Tryz.f31]
theorem NW(hn:4<=n)(al:Int)(x:Nat)(hx:x<=3)(hL:2^60<=L):aA env L n 31 [nI al,nI x] []=some (.d (.ivs (midG (aB al) x).length (aL (midG (aB al) x))),[]):=by
 have loop_c:=fun {R n k} hn=> @TM R L n hn hL al k x 0 L [[]] 1 2 0 (by omega) (by omega) rfl rfl rfl rfl;have e1:aL [[]]=[.str []]:=rfl;rw[e1,Ag]at loop_c;simp only[Aq]at loop_c;generalize(midG (aB al) x).length-(lvG (aB al) x).length=f at *;generalize midG (aB al) x=w at *;have e4:(aL w).take w.length=aL w:=iD (Ab _);have hol2:(aL w).length=w.length:=eN;obtain _|n:=n;omega;simp -implicitDefEqProofs (maxSteps:=2000000) (disch:=try exact Dz) only[↓DN,↓kAsg,↓kRet,UP,simprocAttr,e4,hol2,↓loop_c,Ab,aDy,RB,Tryz.f31]
theorem aDp:type_of% fun {L} al x hx hL=>ks fun hn=> @NW L _ hn al x hx hL:=fun {L} al x hx hL=>ks fun hn=> @NW L _ hn al x hx hL
def setS(o:List Str):List (D×D):=o.map fun w=>(.str w,.bool true)
theorem PI{o:List Str}:(setS o).length=o.length:=Ay _
theorem aFo:∀o:List Str,CI (setS o)=some o
 | []=>rfl
 |w::o=>by
  show(CI (setS o)).map (w::·)=_;rw[aFo o];rfl
theorem aIN{x:Str}:∀(o:List Str) (pre:List (D×D)),∃r,BO .string (.str x) (setS o) pre.length=some r/\uQ (pre++setS o) (.str x) (.bool true) r=pre++setS (insW o x)
 | [],pre=>⟨none,rfl,by simp[uQ,setS,insW]⟩
 |y::o,pre=>by
  by_cases h:x=y
  ·subst h;refine⟨some pre.length,by simp[setS,BO,OP],?_⟩;have e:insW (x::o) x=x::o:=if_pos Bi;rw[e];show(pre++(D.str x,D.bool true)::setS o).set pre.length (.str x,.bool true)=pre++(D.str x,D.bool true)::setS o;rw[Dp _ _ (Ab _),Br,Cf]
  ·obtain⟨r,h1,h2⟩:=aIN (x:=x) o (pre++[(.str y,.bool true)]);have hb:(x==y)=false:=by simpa using h
   have e:insW (y::o) x=y::insW o x:=by
    unfold insW
    by_cases hm:x∈o
    ·rw[if_pos hm,if_pos (Be _ hm)]
    ·rw[if_neg hm,if_neg fun h3=>(Au.1 h3).elim h hm];rfl
   refine⟨r,?_,?_⟩
   ·rw[Af,Co]at h1;simp only[setS,Ai,BO,OP,hb];exact h1
   ·rw[e];rw[Ao,Ao]at h2;exact h2
theorem map_set:mapT env.P 55=some (.string,4):=kr
theorem aT4{T:H}{o:List Str}{x:Str}:pC env.P (.mp (setS o)::T) 55 (.mp 0) (.d (.str x)) (.d (.bool true))=some (.d .undef,.mp (setS (insW o x))::T):=by
 obtain⟨r,h1,h2⟩:=aIN (x:=x) o [];have h1:BO .string (.str x) (setS o) 0=some r:=h1;have h2:uQ (setS o) (.str x) (.bool true) r=setS (insW o x):=h2;unfold pC;simp only[map_set,Ce,aBz,yZ,Bu,if_true,h1,h2,Cf]
theorem aRe{R:Type}{s:List A}{k:A->Option R}:kv s (.const .nilFunc) k=k (.d .nilfn):=rfl
theorem aHO(hn:1<=n){es:List (D×D)}:aA env L n 33 [.mp 0] [.mp es]=some (.clo 66 [.ptr 1 0 0],[.mp es,.box [.mp 0]]):=by
 obtain _|n:=n;omega;simp -implicitDefEqProofs (maxSteps:=2000000) (disch:=try exact Dz) only[↓DN,↓kAsg,↓kRet,UP,simprocAttr,↓aRe,oZ,jC,Tryz.f33]
theorem aUt{es:List (D×D)}{x y:O}{k:KA R}(hn:1<=n):a6 env (aA env L n) [.mp es,x,y] 33 [.mp 0] k=k (.clo 66 [.ptr 3 0 0]) [.mp es,x,y,.box [.mp 0]]:=by
 have hre:aD aG [.mp es,x,y] (idsL [.mp 0]) []=[0]:=rfl;have hpk:pack [.mp es,x,y] [0]=[.mp es]:=rfl;have hma:aE (aH [0]) [.mp 0]=[.mp 0]:=rfl
 have hc:b8 (aA env L n) env.hint [.mp es] 33 [.mp 0]=some (.clo 66 [.ptr 1 0 0],[.mp es,.box [.mp 0]]):=by
  unfold b8;rw[eH];exact aHO hn
 unfold a6;rw[hre,hpk,hma,hc];rfl
theorem aJ1{o:List Str}(h0:0<o.length)(h1:o.length<=4294967296)(hw:∀s∈o,s.length<=4294967296):A3 66 34 [.clo 66 [.ptr 0 0 0],.clo 34 []] [.box [.mp 1],.mp (setS o)]=some (.sl 2 0 0 o.length,[.box [.mp 1],.mp (setS o),.arr (aL (o.mergeSort leX)) 1 0]):=by
 have h2:o.all (fun s=>decide (s.length<=bK))=true:=Bf.2 fun s hs=>decide_eq_true (hw s hs)
 have h3:True/\True/\True/\True/\0<(setS o).length/\(setS o).length<=bK:=by
  rw[PI];exact⟨trivial,trivial,trivial,trivial,h0,h1⟩
 simp only[A3,Ce,At,aFo,h2,if_true];rw[if_pos h3,PI];rfl
theorem aNG{o:List Str}{x y:O}{k:KA R}(hn:1<=n)(h0:0<o.length)(h1:o.length<=4294967296)(hw:∀s∈o,s.length<=4294967296):a6 env (aA env L n) [.mp (setS o),x,y,.box [.mp 0]] 32 [.clo 66 [.ptr 3 0 0],.clo 34 []] k=k (.sl 4 0 0 o.length) [.mp (setS o),x,y,.box [.mp 0],.arr (aL (o.mergeSort leX)) 1 0]:=by
 obtain _|n:=n;omega;have hre:aD aG [.mp (setS o),x,y,.box [.mp 0]] (idsL [.clo 66 [.ptr 3 0 0],.clo 34 []]) []=[3,0]:=rfl;have hpk:pack [.mp (setS o),x,y,.box [.mp 0]] [3,0]=[.box [.mp 1],.mp (setS o)]:=rfl;have hma:aE (aH [3,0]) [.clo 66 [.ptr 3 0 0],.clo 34 []]=[.clo 66 [.ptr 0 0 0],.clo 34 []]:=rfl
 have hc:b8 (aA env L (n+1)) env.hint [.box [.mp 1],.mp (setS o)] 32 [.clo 66 [.ptr 0 0 0],.clo 34 []]=some (.sl 2 0 0 o.length,[.box [.mp 1],.mp (setS o),.arr (aL (o.mergeSort leX)) 1 0]):=by
  unfold b8;rw[jE];show aA env L (n+1) _ _ _=_;rw[zL];exact aJ1 h0 h1 hw
 unfold a6;rw[hre,hpk,hma,hc];rfl
theorem RZ(hn:1<=n)(hL:2^60<=L){cov mids ends:List Str}(hP:Parts cov mids ends){i q:Nat}{c mm:Str}(hc:c.length<=1000)(hmm:mm.length<=1000){k:KE R}:∀(j p m:Nat) (o:List Str) (hp:p+j=ends.length) (hm:j<m),
  aM env (aA env L n) L 0 [] Bz1 (dD 2) (U4 (Z4 (Z1 (U1 (Z1 (U1 (Z1 (U16 (U4 (U2 (Z2 (Z1 (U2 (U1 (Z2 (Z1 (U2 (U1 (Z2 (Z1 (U16 (U2 ([]))))))))))))))))))))))) m (Y4 (.d .nils::.d (.bool false)::.mp 0::.d (.ivs mids.length (aL mids))::.sl 1 0 0 ends.length::Y1 (.d (.str c)::Y1 (.d (.str mm)::Y16 (Y4 (Y2 (.sl 2 0 0 cov.length::nI (cov.length)::nI i::Y2 (Y1 (.d (.ivs mids.length (aL mids))::nI (mids.length)::nI q::Y2 (Y1 (.sl 1 0 0 ends.length::nI (ends.length)::nI p::Y16 (Y2 ([]))))))))))))) [.mp (setS o),.arr (aL ends) 1 0,.arr (aL cov) 1 0] k
  =k (.exit 4) (Y4 (.d .nils::.d (.bool false)::.mp 0::.d (.ivs mids.length (aL mids))::.sl 1 0 0 ends.length::Y1 (.d (.str c)::Y1 (.d (.str mm)::Y16 (Y4 (Y2 (.sl 2 0 0 cov.length::nI (cov.length)::nI i::Y2 (Y1 (.d (.ivs mids.length (aL mids))::nI (mids.length)::nI q::Y2 (Y1 (.sl 1 0 0 ends.length::nI (ends.length)::nI (ends.length)::Y16 (Y2 ([]))))))))))))) [.mp (setS (dL o (endL c mm (ends.drop p)))),.arr (aL ends) 1 0,.arr (aL cov) 1 0]:=by
 have hne:=hP.ne;intro j
 induction j with
 |zero=>
  intro p m o hp hm;obtain _|m:=m;omega;obtain rfl:p=ends.length:=by omega
  have e:dL o (endL c mm (ends.drop ends.length))=o:=by rw[Ca];rfl
  rw[e];simp -implicitDefEqProofs (maxSteps:=2000000) (disch:=try exact Dz) only[↓DN,↓kRet,UP,simprocAttr,Aj,CM,xV,Tryz.f9]
 |succ j ih=>
  intro p m o hp hm;obtain _|m:=m;omega;have hk:p<ends.length:=by omega
  have hc1:(p:Int)<ends.length:=by omega
  have hp0:(0:Int)<=p:=by omega
  have hel:=hP.e _ (cU hk);have hcm:(c++mm).length<=2000:=by rw[Af];omega
  have e:dL o (endL c mm (ends.drop p))=dL (insW o (c++mm++ends.getD p [])) (endL c mm (ends.drop (p+1))):=by
   rw[cI hk (d:=[])];rfl
  have ih':=ih (p+1) m (insW o (c++mm++ends.getD p [])) (by omega) (by omega);rw[cs1 p]at ih';rw[e];clear ih e hP;generalize hei:ends.getD p []=w at *;generalize dL (insW o (c++mm++w)) (endL c mm (ends.drop (p+1)))=z at *;simp -implicitDefEqProofs (maxSteps:=2000000) (disch:=try exact Dz) only[↓DN,↓kRet,UP,simprocAttr,SE,hc1,hp0,hei,aT4,↓ih',CM,xV,Tryz.f9]
theorem R2(hn:1<=n)(hL:2^60<=L){cov mids ends:List Str}(hP:Parts cov mids ends){i:Nat}{c:Str}(hc:c.length<=1000){k:KE R}:∀(j p m:Nat) (o:List Str) (hp:p+j=mids.length) (hm:j<m),
  aM env (aA env L n) L 0 [] Bz1 (dD 1) (U4 (Z4 (Z1 (U1 (Z1 (U16 (U8 (Z2 (Z1 (U2 (U1 (Z2 (Z1 (U16 (U8 ([])))))))))))))))) m (Y4 (.d .nils::.d (.bool false)::.mp 0::.d (.ivs mids.length (aL mids))::.sl 1 0 0 ends.length::Y1 (.d (.str c)::Y16 (Y8 (.sl 2 0 0 cov.length::nI (cov.length)::nI i::Y2 (Y1 (.d (.ivs mids.length (aL mids))::nI (mids.length)::nI p::Y16 (Y8 ([]))))))))) [.mp (setS o),.arr (aL ends) 1 0,.arr (aL cov) 1 0] k
  =k (if(run3 (midF c ends) mids j p o).1=true then .exit 2 else .ret) (Y4 (.d .nils::.d (.bool false)::.mp 0::.d (.ivs mids.length (aL mids))::.sl 1 0 0 ends.length::Y1 (.d (.str c)::Y16 (Y8 (.sl 2 0 0 cov.length::nI (cov.length)::nI i::Y2 (Y1 (.d (.ivs mids.length (aL mids))::nI (mids.length)::nI ((run3 (midF c ends) mids j p o).2.1:Int)::Y16 (Y8 ([]))))))))) [.mp (setS (run3 (midF c ends) mids j p o).2.2),.arr (aL ends) 1 0,.arr (aL cov) 1 0]:=by
 have hne:=hP.ne;have hnm:=hP.nm;intro j
 induction j with
 |zero=>
  intro p m o hp hm;obtain _|m:=m;omega;obtain rfl:p=mids.length:=by omega
  have e:∀f,run3 f mids 0 mids.length o=(true,mids.length,o):=fun _=>rfl;rw[e];simp only[if_true];simp -implicitDefEqProofs (maxSteps:=2000000) (disch:=try exact Dz) only[↓DN,↓kRet,UP,simprocAttr,Aj,rP,qU,Tryz.f9]
 |succ j ih=>
  intro p m o hp hm;obtain _|m:=m;omega;have hk:p<mids.length:=by omega
  have hc1:(p:Int)<mids.length:=by omega
  have hp0:(0:Int)<=p:=by omega
  have hml:=hP.m _ (cU hk);have loop_c:=fun {R n k} hn=> @RZ R L n hn hL cov mids ends hP i p c (mids.getD p []) hc hml k ends.length 0 L o (by omega) (by omega);rw[Bc]at loop_c;simp only[Aq]at loop_c;have hz:midF c ends (mids.getD p []) o=(!decide (3000<(dL o (endL c (mids.getD p []) ends)).length),dL o (endL c (mids.getD p []) ends)):=rfl
  by_cases hb1:3000<(dL o (endL c (mids.getD p []) ends)).length
  ·have hb2:(3000:Int)<(dL o (endL c (mids.getD p []) ends)).length:=by omega
   rw[F7 (by rw[hz,decide_eq_true hb1];rfl),hz];simp only[Ak,if_false];clear ih hz hP;generalize hei:mids.getD p []=w at *;generalize dL o (endL c w ends)=z at *;simp -implicitDefEqProofs (maxSteps:=2000000) (disch:=try exact Dz) only[↓DN,↓kAsg,↓kRet,UP,simprocAttr,SE,hc1,hp0,hei,hb2,PI,↓loop_c,rP,qU,Tryz.f9]
  ·have hb2:¬(3000:Int)<(dL o (endL c (mids.getD p []) ends)).length:=by omega
   rw[BI (by rw[hz,decide_eq_false hb1];rfl),hz];have ih':=ih (p+1) m (dL o (endL c (mids.getD p []) ends)) (by omega) (by omega);rw[cs1 p]at ih';simp only;clear ih hz hP;generalize hei:mids.getD p []=w at *;generalize dL o (endL c w ends)=z at *;generalize run3 (midF c ends) mids j (p+1) z=z2 at *;simp -implicitDefEqProofs (maxSteps:=2000000) (disch:=try exact Dz) only[↓DN,↓kRet,UP,simprocAttr,SE,hc1,hp0,hei,hb2,PI,↓loop_c,↓ih',rP,qU,Tryz.f9]
theorem TB(hn:1<=n)(hL:2^60<=L){cov mids ends:List Str}(hP:Parts cov mids ends){k:KE R}:∀(j p m:Nat) (o:List Str) (hp:p+j=cov.length) (hm:j<m),
  aM env (aA env L n) L 0 [] Bz1 (dD 0) (U4 (Z4 (Z1 (U16 (U8 (U2 (Z2 (Z1 (U16 (U8 (U4 (U2 ([]))))))))))))) m (Y4 (.d .nils::.d (.bool false)::.mp 0::.d (.ivs mids.length (aL mids))::.sl 1 0 0 ends.length::Y16 (Y8 (Y2 (.sl 2 0 0 cov.length::nI (cov.length)::nI p::Y16 (Y8 (Y4 (Y2 ([]))))))))) [.mp (setS o),.arr (aL ends) 1 0,.arr (aL cov) 1 0] k
  =k (if(run3 (covF mids ends) cov j p o).1=true then .exit 0 else .ret) (Y4 (.d .nils::.d (.bool false)::.mp 0::.d (.ivs mids.length (aL mids))::.sl 1 0 0 ends.length::Y16 (Y8 (Y2 (.sl 2 0 0 cov.length::nI (cov.length)::nI ((run3 (covF mids ends) cov j p o).2.1:Int)::Y16 (Y8 (Y4 (Y2 ([]))))))))) [.mp (setS (run3 (covF mids ends) cov j p o).2.2),.arr (aL ends) 1 0,.arr (aL cov) 1 0]:=by
 have hne:=hP.ne;have hnm:=hP.nm;have hnc:=hP.nc;intro j
 induction j with
 |zero=>
  intro p m o hp hm;obtain _|m:=m;omega;obtain rfl:p=cov.length:=by omega
  have e:∀f,run3 f cov 0 cov.length o=(true,cov.length,o):=fun _=>rfl;rw[e];simp only[if_true];simp -implicitDefEqProofs (maxSteps:=2000000) (disch:=try exact Dz) only[↓DN,↓kRet,UP,simprocAttr,Aj,rX,qI,Tryz.f9]
 |succ j ih=>
  intro p m o hp hm;obtain _|m:=m;omega;have hk:p<cov.length:=by omega
  have hc1:(p:Int)<cov.length:=by omega
  have hp0:(0:Int)<=p:=by omega
  have hcl:=hP.c _ (cU hk);have loop_c:=fun {R n k} hn=> @R2 R L n hn hL cov mids ends hP p (cov.getD p []) hcl k mids.length 0 L o (by omega) (by omega);simp only[Aq]at loop_c;have hz:covF mids ends (cov.getD p []) o=((run3 (midF (cov.getD p []) ends) mids mids.length 0 o).1,(run3 (midF (cov.getD p []) ends) mids mids.length 0 o).2.2):=rfl
  cases hb:(run3 (midF (cov.getD p []) ends) mids mids.length 0 o).1 with
  |false=>
   rw[F7 (by rw[hz,hb]),hz];rw[hb]at loop_c;simp only[Ak,if_false]at loop_c|-;clear ih hz hb hP;generalize hei:cov.getD p []=w at *;generalize run3 (midF w ends) mids mids.length 0 o=z at *;simp -implicitDefEqProofs (maxSteps:=2000000) (disch:=try exact Dz) only[↓DN,↓kRet,UP,simprocAttr,SE,hc1,hp0,hei,↓loop_c,rX,qI,Tryz.f9]
  |true=>
   rw[BI (by rw[hz,hb]),hz];have ih':=ih (p+1) m (run3 (midF (cov.getD p []) ends) mids mids.length 0 o).2.2 (by omega) (by omega);rw[cs1 p]at ih';rw[hb]at loop_c;simp only[if_true]at loop_c|-;clear ih hz hb hP;generalize hei:cov.getD p []=w at *;generalize run3 (midF w ends) mids mids.length 0 o=z at *;generalize run3 (covF mids ends) cov j (p+1) z.2.2=z2 at *;simp -implicitDefEqProofs (maxSteps:=2000000) (disch:=try exact Dz) only[↓DN,↓kRet,UP,simprocAttr,SE,hc1,hp0,hei,↓loop_c,↓ih',rX,qI,Tryz.f9]
theorem aPz{a:Aut}(h:AOK a){e:Nat}(he:e<=2):0<(dL [] (covL (cH a) (midG (aB a.al) (e+1)) (sepW a))).length/\∀s∈dL [] (covL (cH a) (midG (aB a.al) (e+1)) (sepW a)),s.length<=4294967296:=by
 obtain⟨_,_,a1,a2,_⟩:=bQ h
 have key:∀s,s∈dL [] (covL (cH a) (midG (aB a.al) (e+1)) (sepW a))↔∃c∈cH a,∃m∈midG (aB a.al) (e+1),∃w∈sepW a,s=c++m++w:=by
  intro s;rw[S0];simp only[Bo,false_or,covL,midL,endL,Di,Bq]
  constructor
  ·rintro⟨c,hc,m,hm,e,he,rfl⟩;exact⟨c,hc,m,hm,e,he,rfl⟩
  ·rintro⟨c,hc,m,hm,e,he,rfl⟩;exact⟨c,hc,m,hm,e,he,rfl⟩
 constructor
 ·have h1:=E7 h;have h2:=OO h
  have h3:∀k,[]∈midG (aB a.al) k:=by
   intro k
   induction k with
   |zero=>simp[midG]
   |succ k ih=>exact Al.2 (.inl ih)
  exact List.length_pos_of_mem ((key _).2 ⟨_,cU (k:=0) (by omega),_,h3 _,_,cU (k:=0) (by omega),rfl⟩)
 ·intro s hs;obtain⟨c,hc,m,hm,w,hw,rfl⟩:=(key s).1 hs;have:=(aI2 h hc hm hw).1;omega
theorem aAU(hn:15<=n)(a:Aut)(hv:AOK a)(e:Nat)(he:e<=2)(hL:2^60<=L):aA env L n 9 [.agg [nI a.al,.d (.ivs a.nx.length (aN a.nx)),.d (.ivs a.ac.length (aJ a.ac))],nI e] []=match iU a e with
  |some l=>some (.tup [.sl 0 0 0 l.length,.d (.bool true)],[.arr (aL l) 1 0])
  |none=>some (.tup [.d (.ivs 0 []),.d (.bool false)],[]):=by
 obtain⟨sa,wa,a1,a2,a3⟩:=bQ hv;have hrl:=sa.1;have hP:=Z9 hv he;have e1:iU a e=rR (cH a) (midG (aB a.al) (e+1)) (sepW a):=if_pos ⟨hv,by omega,by omega⟩;rw[e1];have kc_c:=fun {R:Type} {n:Nat} {hq:H} {k:KA R} (hn:10<=n)=>BP (h:=hq) (k:=k) rfl m9 (JT (L:=L) hn a hv hL);have kc_w:=fun {R:Type} {n:Nat} {hq:H} {k:KA R} (hn:10<=n)=>BP (h:=hq) (k:=k) rfl jV (x2 (L:=L) hn a hv hL);have kc_m:=@aDp L a.al (e+1) (by omega) hL;rw[cs1 e]at kc_m;have hcn:=hP.nc;have loop_c:=fun {R n k} hn=> @TB R L n hn hL _ _ _ hP k (cH a).length 0 L [] (by omega) (by omega);have es:setS []=[]:=rfl;rw[es]at loop_c;have hr:=OW (f:=covF (midG (aB a.al) (e+1)) (sepW a)) (ws:=cH a) (cH a).length 0 [] (by omega);rw[Bc]at hr;have hs:=aLu (cov:=cH a) (mids:=midG (aB a.al) (e+1)) (ends:=sepW a);rw[hr]at hs;rw[aKv]at hr;obtain⟨f1,f2⟩:=aPz hv he;have he0:(0:Int)<=e:=by omega
 have hx0:¬(e:Int)<0:=by omega
 have hx1:¬2<(e:Int):=by omega
 have hve:dP a.al a.nx a.ac=true:=hv;simp only[Aq]at loop_c;rw[<-hs];have hac:a.ac.length<=4294967296:=by omega
 clear hs e1 hP wa;generalize dL [] (covL (cH a) (midG (aB a.al) (e+1)) (sepW a))=S at *;generalize cH a=cov at *;generalize midG (aB a.al) (e+1)=mids at *;generalize sepW a=ends at *;generalize run3 (covF mids ends) cov cov.length 0 []=z at *
 cases hb:z.1 with
 |false=>
  rw[hb]at loop_c;simp only[Cp,Ak,if_false]at loop_c|-;obtain _|n:=n;omega;simp -implicitDefEqProofs (maxSteps:=2000000) (disch:=try exact Dz) only[↓DN,↓kAsg,↓kRet,UP,simprocAttr,↓bT,hve,hx0,hx1,↓kc_c,↓kc_w,↓kc_m,↓loop_c,nV,lX,Tryz.f9]
 |true=>
  rw[hb]at loop_c hr;simp only[if_true]at loop_c hr|-
  have hS:S=z.2.2/\S.length<=3000:=by
   split at hr
   ·cases hr
   ·injection hr with hr;exact⟨hr,by omega⟩
  obtain⟨rfl,hS2⟩:=hS;have kc_q:=fun {R:Type} {n:Nat} {x y:O} {k:KA R} (hn:1<=n)=> @aNG R L n z.2.2 x y k hn f1 (by omega) f2;have hml:(z.2.2.mergeSort leX).length=z.2.2.length:=List.length_mergeSort _;rw[<-hml]at kc_q;simp only[Ax];clear hr f1 f2;generalize z.2.2.mergeSort leX=l at *;have e4:(aL l).take l.length=aL l:=iD (Ab _);obtain _|n:=n;omega;simp -implicitDefEqProofs (maxSteps:=2000000) (disch:=try exact Dz) only[↓DN,↓kAsg,↓kRet,UP,simprocAttr,↓bT,hve,hx0,hx1,↓kc_c,↓kc_w,↓kc_m,↓aUt,↓kc_q,↓loop_c,nV,lX,Tryz.f9]
theorem aDT(hn:15<=n)(a:Aut)(x:Int)(hs:bF a.nx)(hac:a.ac.length<=4294967296)(hv:¬(dP a.al a.nx a.ac=true/\0<=x/\x<=2))(hL:2^60<=L):aA env L n 9 [.agg [nI a.al,.d (.ivs a.nx.length (aN a.nx)),.d (.ivs a.ac.length (aJ a.ac))],nI x] []=some (.tup [.d (.ivs 0 []),.d (.bool false)],[]):=by
 have hrl:=hs.1
 cases hve:dP a.al a.nx a.ac with
 |false=>
  obtain _|n:=n;omega;simp -implicitDefEqProofs (maxSteps:=2000000) (disch:=try exact Dz) only[↓DN,↓kAsg,↓kRet,UP,simprocAttr,↓bT,hve,nV,lX,Tryz.f9]
 |true=>
  by_cases hx0:x<0
  ·obtain _|n:=n;omega;simp -implicitDefEqProofs (maxSteps:=2000000) (disch:=try exact Dz) only[↓DN,↓kAsg,↓kRet,UP,simprocAttr,↓bT,hve,hx0,nV,lX,Tryz.f9]
  ·have hx1:2<x:=by
    apply Ef;intro h;exact hv ⟨hve,by omega,by omega⟩
   obtain _|n:=n;omega;simp -implicitDefEqProofs (maxSteps:=2000000) (disch:=try exact Dz) only[↓DN,↓kAsg,↓kRet,UP,simprocAttr,↓bT,hve,hx0,hx1,nV,lX,Tryz.f9]
theorem aD9(hn:15<=n)(a:Aut)(x:Int)(hs:bF a.nx)(hac:a.ac.length<=4294967296)(hL:2^60<=L):aA env L n 9 [.agg [nI a.al,.d (.ivs a.nx.length (aN a.nx)),.d (.ivs a.ac.length (aJ a.ac))],nI x] []=match iU a x with
  |some l=>some (.tup [.sl 0 0 0 l.length,.d (.bool true)],[.arr (aL l) 1 0])
  |none=>some (.tup [.d (.ivs 0 []),.d (.bool false)],[]):=by
 by_cases hv:dP a.al a.nx a.ac=true/\0<=x/\x<=2
 ·obtain⟨e,rfl⟩:∃e:Nat,x=e:=⟨x.toNat,by omega⟩
  exact aAU hn a hv.1 e (by omega) hL
 ·rw[aDT hn a x hs hac hv hL,show iU a x=none from if_neg hv]
end
theorem FC{a:Aut}{x:Int}{l:List Str}(h:iU a x=some l)(w:Str):w∈l↔∃c∈cH a,∃m∈midG (aB a.al) (x.toNat+1),∃e∈sepW a,w=c++m++e:=by
 unfold iU at h
 split at h
 ·exact aNH h w
 ·cases h
theorem J5{a:Aut}{x:Int}{l:List Str}(h:iU a x=some l):AOK a/\0<=x/\x<=2/\m5 l/\l.length<=3000:=by
 unfold iU at h
 split at h
 ·rename_i hc
  exact⟨hc.1,hc.2.1,hc.2.2,aQE h⟩
 ·cases h
theorem aDR{ls:List Int}:∀k,[]∈midG ls k
 |0=>by simp[midG]
 |k+1=>Al.2 (.inl (aDR k))
theorem aT7{a:Aut}(h:AOK a):[]∈cH a:=by
 have:=aRf h;rw[<-this.first];exact cU this.pos
theorem VB{a:Aut}{i:Int}:∀(q j:Nat) (o:List Str) (w:Str),w∈o->w∈sepJ a i q j o
 |0,_,_,_,h=>h
 |q+1,j,o,w,h=>by
  unfold sepJ
  split
  ·exact VB q (j+1) _ w (Al.2 (.inl h))
  ·exact VB q (j+1) o w h
theorem aE8{a:Aut}:∀(q i:Nat) (o:List Str) (w:Str),w∈o->w∈sepA a q i o
 |0,_,_,_,h=>h
 |q+1,i,o,w,h=>by unfold sepA;exact aE8 q (i+1) _ w (VB _ _ o w h)
theorem aUc(a:Aut):[]∈sepW a:=aE8 _ _ _ _ (Bk.2 rfl)
theorem aIa{a:Aut}{x:Int}{l:List Str}(h:iU a x=some l):0<l.length/\l.getD 0 []=[]:=by
 obtain⟨hv,_,_,hs,_⟩:=J5 h;have hm:[]∈l:=(FC h []).2 ⟨[],aT7 hv,[],aDR _,[],aUc a,rfl⟩;obtain⟨i,hi,e⟩:=Cl hm;refine⟨by omega,?_⟩
 rcases Cs i with rfl|h0
 ·rw[Aa,Ae hi,e];rfl
 ·have:=List.pairwise_iff_getElem.1 hs 0 i (by omega) hi h0;rw[e]at this
  rcases AZ.1 this with h|⟨_,h⟩
  ·simp at h
  ·simp[Op.bytesLess]at h
theorem aKb{a:Aut}{x:Int}{l:List Str}(h:iU a x=some l){w:Str}(hw:w∈l):(w.length:Int)<=2*a.nx.length+x/\mA a.al w=true/\cX w=true:=by
 obtain⟨hv,h0,h2,_,_⟩:=J5 h;obtain⟨_,_,a1,a2,_⟩:=bQ hv;obtain⟨c,hc,m,hm,e,he,rfl⟩:=(FC h w).1 hw;have:=aI2 hv hc hm he;have h3:=this.1;exact⟨by omega,this.ok (kX hv).2.2.2 (by omega)⟩
theorem aJ6{R:Type}{E:Env}{call:aZ}{h:H}{f:FuncId}{args:List A}{l:List Str}{b:Bool}{k:KA R}(hs:args.all qH=true)(hm:(E.hint f).mode=3)(hc:call f args []=some (.tup [.sl 0 0 0 l.length,.d (.bool b)],[.arr (aL l) 1 0])):
  a6 E call h f args k=k (.tup [.sl h.length 0 0 l.length,.d (.bool b)]) (h++[.arr (aL l) 1 0]):=by
 rw[OT hs hm hc (by simp only[lP,kB,uK,Bs,Cb,aCn,Bu])];simp[mapA,aE,back,mapO]
theorem aGe{R:Type}{E:Env}{call:aZ}{h:H}{f:FuncId}{args:List A}{b:Bool}{k:KA R}(hs:args.all qH=true)(hm:(E.hint f).mode=3)(hc:call f args []=some (.tup [.d (.ivs 0 []),.d (.bool b)],[])):
  a6 E call h f args k=k (.tup [.d (.ivs 0 []),.d (.bool b)]) h:=by
 rw[OT hs hm hc rfl];simp[mapA,aE]
end Ev
end Go.Proofs.YthlkcebdfbjdoaaGreat
