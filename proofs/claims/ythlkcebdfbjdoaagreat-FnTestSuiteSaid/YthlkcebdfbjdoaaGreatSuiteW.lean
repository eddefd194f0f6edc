/-
  The first word that leads to a state, walked: the program's way and the reference's.
-/
import Derived.Test.YthlkcebdfbjdoaaGreatSplit
import Derived.Test.YthlkcebdfbjdoaaGreatDraw2
import Derived.Test.YthlkcebdfbjdoaaGreatTwo
import Derived.Test.YthlkcebdfbjdoaaGreatPathV
import Derived.Test.YthlkcebdfbjdoaaGreatMemS
import Derived.Test.YthlkcebdfbjdoaaGreatShlx
import Derived.Test.YthlkcebdfbjdoaaGreatEvDef
import Derived.Test.YthlkcebdfbjdoaaGreatSuiteL
set_option linter.unusedSimpArgs false
set_option linter.unusedVariables false
set_option maxRecDepth 8000
set_option maxHeartbeats 4000000
namespace Go.Proofs.YthlkcebdfbjdoaaGreat
namespace Ev
section
variable{R:Type}{L n:Nat}
def nxS(a:Aut)(v l:Int):List Int:=[goI a.al a.nx v l]
def glS(st v:Int):Bool:=decide (v=st)
def inS(a:Aut)(x:Int):Prop:=0<=x/\x<(a.nx.length:Int)
def oneG(a:Aut)(st:Int):List Int×Bool:=DX (nxS a) (glS st) (aB a.al) [0] a.nx.length
def accG(a:Aut)(st:Int):List Int×Bool:=if cY a.al a.nx a.ac=true then oneG a st else([],false)
theorem MP{a:Aut}(ha:AOK a){v c:Int}(h0:0<=v)(h1:v<(a.nx.length:Int))(hc:0<=c/\c<6):∀m∈nxS a v c,0<=m/\m<(a.nx.length:Int):=by
 intro m hm;simp only[nxS,Bk]at hm;subst hm;exact mI ha h0 h1 hc.1 hc.2
theorem ES{a:Aut}(ha:AOK a)(st:Int):EG (Hits (nxS a) (aB a.al) [0] (glS st)) (oneG a st):=by
 obtain⟨_,_,h1,_,_⟩:=bK ha;refine aDb (lU _) (fun p c h0 h1 hc=> ?_) (fun n hn=> ?_) sm
 ·have:=cF c hc;exact MP ha h0 h1 om
 ·simp only[Bk]at hn;omega
theorem aEA{a:Aut}(ha:AOK a):∀(w:List Int) (v u:Int),0<=v->v<(a.nx.length:Int)->Path (nxS a) (aB a.al) v w u->0<=u/\u<(a.nx.length:Int)
 | [],v,u,h0,h1,h=>by simp only[Path]at h;subst h;exact⟨h0,h1⟩
 |l::w,v,u,h0,h1,h=>by
  simp only[Path]at h;obtain⟨hl,m,hm,hp⟩:=h;have:=cF l hl;have hr:=MP ha h0 h1 ⟨this.1,by omega⟩ m hm;exact aEA ha w m u hr.1 hr.2 hp
theorem aPv{a:Aut}(ha:AOK a){st:Int}(h:¬(0<=st/\st<(a.nx.length:Int))):oneG a st=([],false):=by
 obtain⟨_,_,h1,_,_⟩:=bK ha
 rcases ES ha st with⟨_,⟨u,⟨s,hs,hp⟩,hg⟩,_⟩|⟨he,_⟩
 ·simp only[Bk]at hs;subst hs;have:=aEA ha _ _ _ om om hp;simp only[glS,decide_eq_true_eq]at hg;subst hg;exact absurd this h
 ·exact he
theorem aQe{v:Int}:ints [v]=[.int .i64 v]:=rfl
theorem VZ(hn:1<=n){a:Aut}(ha:AOK a){x c:Int}(hx:inS a x)(hc0:0<=c)(hc6:c<6)(o:List Int)(ho:o.length<=2147483648):
  aA env L n 107 [nI x,nI c,.sl 0 0 0 o.length,.d (tabP a)] [.arr (ints o) 1 0]=some (.sl 0 (nxS a x c).length 0 (o++nxS a x c).length,[.arr (ints (o++nxS a x c)) 1 (nxS a x c).length]):=by
 obtain⟨sa,wa,a1,a2,a3⟩:=bK ha;have ga:=mI ha hx.1 hx.2 hc0 hc6;have hla:=lK a.al a.nx;have hta:=aDq (al:=a.al) hx.1 hx.2 hc0 hc6;rw[Ci]at hta;unfold nxS tabP;obtain⟨x0,x1⟩:=hx;have d1:x.toNat*6<=a.nx.length*6:=om;have d3:c.toNat<a.nx.length*6-x.toNat*6:=om;generalize goI a.al a.nx x c=g1 at *;have hl1:(List.length [g1])=1:=rfl;clear ha sa wa;obtain _|n:=n;omega
 simp-implicitDefEqProofs (maxSteps:=9^7) (disch:=try exact Dz) only[↓DN,↓kAsg,↓kRet,UP,simprocAttr,hla,hta,x0,x1,Ce,Ci,hl1,VW,GN,Tryz.f107]
theorem aKh{R:Type}{L n id:Nat}{hq:H}{k:KA R}(hn:1<=n){a:Aut}(ha:AOK a)(x c:Int)(o:List Int)(hx:inS a x)(hc0:0<=c)(hc6:c<6)(ho:o.length<=2147483648)(hid:hq[id]? =some (.arr (ints o) 1 0)):
  aW env (aA env L n) hq 107 (nI x::nI c::.sl id 0 0 o.length::[tabP a].map A.d) k
  =k (.sl id (nxS a x c).length 0 (o++nxS a x c).length) (hq.set id (.arr (ints (o++nxS a x c)) 1 (nxS a x c).length)):=by
 refine OP hid (by simp[idsL,idsA]) pD ?_;have hpl:aI [id] id=some 0:=by simp[aI]
 simp only[Ah,Ap,aE,mapA,hpl];exact VZ hn ha hx hc0 hc6 o ho
theorem SU(hn:1<=n)(x st:Int):aA env L n 80 [nI x,.d (.iptr [.int .i64 st])] []=some (.d (.bool (glS st x)),[]):=by
 unfold glS
 by_cases h:x=st
 ·subst h;obtain _|n:=n;omega
  simp-implicitDefEqProofs (maxSteps:=9^7) (disch:=try exact Dz) only[↓DN,↓kAsg,↓kRet,UP,simprocAttr,B0,s9,Tryz.f80]
 ·have h2:(x==st)=false:=by simpa using h
  have h3:decide (x=st)=false:=by simpa using h
  obtain _|n:=n;omega
  simp-implicitDefEqProofs (maxSteps:=9^7) (disch:=try exact Dz) only[↓DN,↓kAsg,↓kRet,UP,simprocAttr,h3,B0,s9,Tryz.f80]
theorem aCy(hn:8<=n)(hL:2^60<=L){a:Aut}(ha:AOK a)(st:Int):
  aA env L n 79 [.agg [nI a.al,.d (.ivs a.nx.length (aL a.nx)),.d (.ivs a.ac.length (aJ a.ac))],.d (.fn 80 [.iptr [.int .i64 st]])] []=some (.tup [.d (.str (txt (oneG a st).1)),.d (.bool (oneG a st).2)],[]):=by
 obtain⟨sa,wa,a1,a2,a3⟩:=bK ha
 have hp:=fun {n:Nat} (hn:7<=n)=> @K5 L n hn hL (inS a) (glS st) 107 80 [tabP a] [.iptr [.int .i64 st]] a.nx.length (nxS a) (aB a.al) [0]
  (fun {R n id hq k} x c o h4 hI h0 h6 ho hid=>aKh om ha x c o hI h0 h6 ho hid)
  (fun {R n hq k} x h2 hI=>cK rfl (SU om x st) rfl (.inl rfl))
  (fun x hI=>hI) om (fun x hx=>by simp at hx;subst hx;exact⟨by omega,by omega⟩) (fun x c hI h0 h6 y hy=>MP ha hI.1 hI.2 ⟨h0,h6⟩ y hy) (fun x c=>by simp[nxS]) cF (bV a.al) sm (by simp only[Ad,Ac];omega)
 have kl_p:=fun {R:Type} {n:Nat} {k:A->Option R} (hn:7<=n)=>kQ (k:=k) (hp (n:=n) hn) rfl;have er:DX (nxS a) (glS st) (aB a.al) [0] a.nx.length=oneG a st:=rfl;rw[er]at kl_p;simp only[aQe,Ad,Ac,Ag,tabP]at kl_p;have hla:=lK a.al a.nx;have kv_l:=fun {R:Type} {n:Nat} {hq:H} {args:List A} {k:KA R}=>dA (E:=env) (call:=aA env L n) (h:=hq) (k:=k) (args:=args) oD;clear hp ha er;generalize oneG a st=r at *;obtain _|n:=n;omega
 simp-implicitDefEqProofs (maxSteps:=9^7) (disch:=try exact Dz) only[↓DN,↓kAsg,↓kRet,UP,simprocAttr,↓SH,↓kF,↓kv_l,↓kl_p,aC5,PK,Tryz.f79]
theorem IH(hn:9<=n)(a:Aut)(st:Int)(hs:bB a.nx)(hac:a.ac.length<=4294967296)(hL:2^60<=L):aA env L n 44 [.agg [nI a.al,.d (.ivs a.nx.length (aL a.nx)),.d (.ivs a.ac.length (aJ a.ac))],nI st] []=some (.tup [.d (.str (txt (accG a st).1)),.d (.bool (accG a st).2)],[]):=by
 have hrl:=hs.1;unfold accG
 cases hv:cY a.al a.nx a.ac with
 |false=>
  simp only[Ak,if_false,txt,Ap];obtain _|n:=n;omega
  simp-implicitDefEqProofs (maxSteps:=9^7) (disch:=try exact Dz) only[↓DN,↓kAsg,↓kRet,UP,simprocAttr,↓bM,hv,IJ,zY,Tryz.f44]
 |true=>
  simp only[if_true];have kl_b:=fun {R:Type} {n:Nat} {k:A->Option R} (hn:8<=n)=>kQ (call:=aA env L n) (k:=k) (f:=79) (@aCy L n hn hL a hv st) rfl;have kv_l:=fun {R:Type} {n:Nat} {hq:H} {args:List A} {k:KA R}=>dA (E:=env) (call:=aA env L n) (h:=hq) (k:=k) (args:=args) uN;generalize oneG a st=r at *;obtain _|n:=n;omega
  simp-implicitDefEqProofs (maxSteps:=9^7) (disch:=try exact Dz) only[↓DN,↓kAsg,↓kRet,UP,simprocAttr,↓bM,hv,↓kv_l,↓kl_b,IJ,zY,Tryz.f44]
theorem aB2:type_of% fun {L} a st hs hac hL=>ks fun hn=> @IH L _ hn a st hs hac hL:=fun {L} a st hs hac hL=>ks fun hn=> @IH L _ hn a st hs hac hL
end

theorem aND{al:Int}{rs:List (List Int)}{ac:List Bool}(ha:jF al=true)(h1:1<=rs.length)(h2:rs.length<=12)(h3:ac.length=rs.length)(hr:∀r∈rs,r.length=(aB al).length/\∀q∈r,0<=q/\q<rs.length):cY al rs ac=true:=by
 unfold cY;simp only[Ar,decide_eq_true_eq];refine⟨⟨⟨⟨ha,by omega⟩,by omega⟩,by omega⟩,?_⟩;rw[Option.isNone_iff_eq_none,qF];intro i _ hi;have hi:i<rs.length:=om;obtain⟨hw,hq⟩:=hr (rs.getD i []) (by rw[Aa,Ae hi];exact Az hi);unfold fK;rw[NK om]
 have:seek (badQ rs.length (rs.getD i [])) (rs.getD i []).length 0=none:=by
  rw[qF];intro j _ hj;have hj:j<(rs.getD i []).length:=om;rw[wK];refine hq _ ?_;generalize rs.getD i []=r at *;rw[Aa,Ae hj];exact Az hj
 rw[this];rfl
theorem JF{al:Int}{rs:List (List Int)}{ac:List Bool}(h:cY al rs ac=true){i:Nat}(hi:i<rs.length):(rs.getD i []).length=(aB al).length/\∀j,j<(aB al).length->0<=(rs.getD i []).getD j 0/\(rs.getD i []).getD j 0<rs.length:=by
 have hw:=aC9 (xH h) hi;refine⟨hw,?_⟩;intro j hj;unfold cY at h;simp only[Ar]at h;have hb:=GR h.2 hi;unfold fK at hb;rw[NK om]at hb
 have:=GR (p:=badQ rs.length (rs.getD i [])) (n:=(rs.getD i []).length) (by cases hs:seek (badQ rs.length (rs.getD i [])) (rs.getD i []).length 0 with
  |none=>rfl
  |some z=>rw[hs]at hb;cases hb) (i:=j) om
 exact wK.1 this
def stGo(al:Int)(rs:List (List Int))(w:List UInt8)(q:Int):Int:=w.foldl (fun q b=>goI al rs q (ltr b)) q
def MZ(al:Int)(rs:List (List Int))(ac:List Bool)(w:List UInt8):Int:=if cY al rs ac&&lJ al w then stGo al rs w 0 else -1
section
def goS(a:Aut)(v l:Int):Int:=goI a.al a.nx v l
def rowA(a:Aut)(v:Int):List Int:=a.nx.getD v.toNat []
def ordA(a:Aut):List Int:=ordB (goS a) (aB a.al) (a.nx.length+1) 0 [0]
def idxU(out:List Int)(x:Int):Int:=(out.idxOf x:Nat)
def cU(a:Aut):Aut:=⟨a.al,(ordA a).map fun v=>(rowA a v).map (idxU (ordA a)),(ordA a).map fun v=>a.ac.getD v.toNat false⟩
theorem aJG{a:Aut}(h:AOK a):∀v l:Int,0<=v->v<a.nx.length->l∈aB a.al->0<=goS a v l/\goS a v l<a.nx.length:=by
 intro v l h0 h1 hl;have:=cF l hl;exact mI h h0 h1 this.1 om
theorem aMs{al:Int}{k:Nat}(hk:k<(aB al).length):gR al (aB al)[k]=k:=by
 obtain⟨⟨h0,h1⟩,hb⟩:=fZ.1 (Az hk);obtain⟨h2,h3⟩:=BN h0 h1 hb;rw[Ae h2]at h3;exact(List.getElem_inj (PF al)).1 (Option.some.inj h3)
theorem aC2{a:Aut}(h:AOK a){v:Int}(h0:0<=v)(h1:v<a.nx.length):(aB a.al).map (goS a v)=rowA a v:=by
 have hl:=(JF h (i:=v.toNat) om).1;apply List.ext_getElem
 ·rw[Ay];exact hl.symm
 ·intro k g1 g2;rw[Ay]at g1;rw[List.getElem_map];unfold goS;rw[VL (fZ.1 (Az g1)).2,aMs g1];show(rowA a v).getD k 0=_;rw[Aa,Ae g2];rfl
theorem r8{a:Aut}(h:AOK a):∃W,Bfs (goS a) (aB a.al) a.nx.length (ordA a).length [] (ordA a) W:=by
 obtain⟨_,_,h1,_,_⟩:=bK h;exact aJh (lU _) (aJG h) _ 0 [0] _ (Bfs.start om) om om
theorem aGs{a:Aut}:∀(w:List Int) (v u:Int),Path (nxS a) (aB a.al) v w u↔(∀l∈w,l∈aB a.al)/\w.foldl (goS a) v=u
 | [],v,u=>by simp[Path]
 |l::w,v,u=>by
  simp only[Path,nxS,Bk,exists_eq_left,aGs w,List.foldl_cons,List.forall_mem_cons];unfold goS;exact and_assoc.symm
theorem GP{a:Aut}{st:Int}{w:List Int}:Hits (nxS a) (aB a.al) [0] (glS st) w↔(∀l∈w,l∈aB a.al)/\w.foldl (goS a) 0=st:=by
 unfold Hits sB glS;simp only[Bk,exists_eq_left,aGs,decide_eq_true_eq]
 constructor
 ·rintro⟨u,⟨h1,h2⟩,rfl⟩;exact⟨h1,h2⟩
 ·rintro⟨h1,h2⟩;exact⟨st,⟨h1,h2⟩,rfl⟩
section
variable{a:Aut}{W:Nat->List Int}
theorem zD{x:Int}{out:List Int}(hx:x∈out):out.getD (out.idxOf x) 0=x/\out.idxOf x<out.length:=by
 have h:=List.idxOf_lt_length_of_mem hx;refine⟨?_,h⟩;rw[Aa,Ae h,List.getElem_idxOf];rfl
theorem sJ{q:Nat}{out:List Int}(hq:q<out.length):out.getD q 0∈out:=by
 rw[Aa,Ae hq];exact Az hq
theorem HB(h:AOK a)(hB:Bfs (goS a) (aB a.al) a.nx.length (ordA a).length [] (ordA a) W){q:Nat}(hq:q<(ordA a).length):oneG a ((ordA a).getD q 0)=(W q,true):=by
 refine rH (ES h _) (.inl ⟨rfl,GP.2 ⟨hB.lts q hq,hB.run q hq⟩,fun x hx=> ?_⟩);obtain⟨h1,h2⟩:=GP.1 hx;obtain⟨p,hp,e,hs⟩:=hB.least x.length x rfl h1;have:p=q:=hB.idx hp hq (by rw[e,h2]);subst this;exact hs
theorem aNm(h:AOK a){st:Int}(ho:st∉ordA a):oneG a st=([],false):=by
 obtain⟨W,hB⟩:=r8 h;refine rH (ES h _) (.inr ⟨rfl,fun w hw=> ?_⟩);obtain⟨h1,h2⟩:=GP.1 hw;obtain⟨p,hp,e,_⟩:=hB.least w.length w rfl h1;rw[h2]at e;exact ho (e▸sJ hp)
theorem NJ(hB:Bfs (goS a) (aB a.al) a.nx.length (ordA a).length [] (ordA a) W){v l:Int}(hv:v∈ordA a)(hl:l∈aB a.al):goS a v l∈ordA a:=by
 obtain⟨e,hq⟩:=zD hv;obtain⟨p,hp,e2,_⟩:=hB.clo _ l hq hl (.inl hq);rw[e]at e2;exact e2▸sJ hp
theorem Y6(h:AOK a):AOK (cU a):=by
 obtain⟨W,hB⟩:=r8 h;obtain⟨b1,b2,b3,b4⟩:=j8 h;have hn:=hY hB.nod hB.rng;have hp:=hB.pos;unfold AOK cU;refine aND b4 (by rw[Ay];omega) (by rw[Ay];omega) (by rw[Ay,Ay]) ?_;intro r hr;obtain⟨v,hv,rfl⟩:=Bp.1 hr;obtain⟨v0,v1⟩:=hB.rng v hv;have hrow:=aC2 h v0 v1;refine⟨by rw[Ay,<-hrow,Ay],?_⟩;intro q hq;obtain⟨x,hx,rfl⟩:=Bp.1 hq;rw[<-hrow]at hx;obtain⟨l,hl,rfl⟩:=Bp.1 hx;have:=(zD (NJ hB hv hl)).2;unfold idxU;rw[Ay];omega
theorem aPr(h:AOK a)(hB:Bfs (goS a) (aB a.al) a.nx.length (ordA a).length [] (ordA a) W){q:Nat}(hq:q<(ordA a).length){l:Int}(hl:l∈aB a.al):goS (cU a) q l=idxU (ordA a) (goS a ((ordA a).getD q 0) l):=by
 obtain⟨⟨h0,h1⟩,hb⟩:=fZ.1 hl;obtain⟨v0,v1⟩:=hB.rng _ (sJ hq);obtain⟨p1,p2⟩:=BN h0 h1 hb;have hlen:=(JF h (i:=((ordA a).getD q 0).toNat) om).1
 have e1:((cU a).nx.getD q [])=(rowA a ((ordA a).getD q 0)).map (idxU (ordA a)):=by
  unfold cU;simp only[Aa,Bd,Ae hq,Ax,Bb]
 unfold goS;rw[VL hb,VL (show dS (cU a).al l=true from hb),Ct,e1];show((rowA a ((ordA a).getD q 0)).map (idxU (ordA a))).getD (gR a.al l) 0=_;have hr:gR a.al l<(rowA a ((ordA a).getD q 0)).length:=by unfold rowA;omega
 rw[Aa,Bd,Ae hr,Aa (l:=a.nx.getD _ _)];show idxU _ (rowA a ((ordA a).getD q 0))[gR a.al l]=idxU _ ((rowA a ((ordA a).getD q 0))[gR a.al l]?.getD 0);rw[Ae hr];rfl
theorem aHP(h:AOK a)(hB:Bfs (goS a) (aB a.al) a.nx.length (ordA a).length [] (ordA a) W):∀(w:List Int) (q:Nat),q<(ordA a).length->(∀l∈w,l∈aB a.al)->w.foldl (goS a) ((ordA a).getD q 0)∈ordA a/\w.foldl (goS (cU a)) (q:Int)=idxU (ordA a) (w.foldl (goS a) ((ordA a).getD q 0))
 | [],q,hq,_=>by
  refine⟨sJ hq,?_⟩;unfold idxU;simp only[List.foldl_nil];have:=hB.nod.idxOf_getElem q hq;rw[Aa,Ae hq,Bb,this]
 |l::w,q,hq,hw=>by
  have hl:=hw l Bi;obtain⟨e,hp⟩:=zD (NJ hB (sJ hq) hl);have ih:=aHP h hB w _ hp fun m hm=>hw m (Be _ hm);rw[e]at ih;simp only[List.foldl_cons];rw[aPr h hB hq hl];exact ih
theorem aMw(h:AOK a)(hB:Bfs (goS a) (aB a.al) a.nx.length (ordA a).length [] (ordA a) W){q:Nat}(hq:q<(ordA a).length):oneG (cU a) q=(W q,true):=by
 rw[<-HB h hB hq];refine rH (aCl (fun w=> ?_) (ES (Y6 h) q)) (ES h _);rw[GP,GP];show(∀l∈w,l∈aB a.al)/\_↔_;refine and_congr_right fun hw=> ?_;obtain⟨h1,h2⟩:=aHP h hB w 0 hB.pos hw;rw[hB.o0]at h1 h2;have h3:w.foldl (goS (cU a)) 0=idxU (ordA a) (w.foldl (goS a) 0):=h2;rw[h3];obtain⟨e,hp⟩:=zD h1;unfold idxU
 constructor
 ·intro hh;have:(ordA a).idxOf (w.foldl (goS a) 0)=q:=om;rw[this]at e;exact e.symm
 ·intro hh;rw[hB.idx hp hq (by rw[e,hh])]
end
theorem aDP{l:Int}(h0:0<=l)(h1:l<6):(bR l).toNat=(97+l).toNat:=by
 unfold bR;rw[UInt8.toNat_ofNat'];omega
theorem aJB:∀ {u v:List Int},(∀l∈u,0<=l/\l<6)->(∀l∈v,0<=l/\l<6)->pK u v->Op.bytesLess (txt u) (txt v)=true
 | [],_,_,_,h=>h.elim
 |_::_,[],_,_,h=>h.elim
 |a::u,b::v,hu,hv,h=>by
  have ha:=hu a Bi;have hb:=hv b Bi;show Op.bytesLess (bR a::txt u) (bR b::txt v)=true;rw[mT,aDP ha.1 ha.2,aDP hb.1 hb.2]
  rcases h with h|⟨rfl,h⟩
  ·exact .inl om
  ·exact .inr ⟨rfl,aJB (fun l hl=>hu l (Be _ hl)) (fun l hl=>hv l (Be _ hl)) h⟩
theorem aPQ{u v:List Int}(hu:∀l∈u,0<=l/\l<6)(hv:∀l∈v,0<=l/\l<6)(h:slt u v):cmpX (txt u) (txt v)<0:=by
 rw[zJ];unfold txt;rw[Ay,Ay]
 rcases h with h|⟨h1,h⟩
 ·exact .inl h
 ·exact .inr ⟨h1,aJB hu hv h⟩
def b6(a:Aut):List Str:=(List.range (ordA a).length).map fun q=>txt (oneG a ((ordA a).getD q 0)).1
def gC(a:Aut)(j i:Nat):List Str:=(List.range' i j).filterMap fun q=>if(oneG a (q:Nat)).2=true then some (txt (oneG a (q:Nat)).1)else none
def aBV(l:List Str):List Str:=l.mergeSort leX
section
variable{a:Aut}{W:Nat->List Int}
theorem BB(h:AOK a)(hB:Bfs (goS a) (aB a.al) a.nx.length (ordA a).length [] (ordA a) W):b6 a=(List.range (ordA a).length).map fun q=>txt (W q):=by
 unfold b6;apply List.map_congr_left;intro q hq;rw[HB h hB (Ch.1 hq)]
theorem U7(hB:Bfs (goS a) (aB a.al) a.nx.length (ordA a).length [] (ordA a) W){j k:Nat}(hjk:j<k)(hk:k<(ordA a).length):cmpX (txt (W j)) (txt (W k))<0:=by
 have hin:∀q,q<(ordA a).length->∀l∈W q,0<=l/\l<6:=fun q hq l hl=>by
  have:=cF l (hB.lts q hq l hl);omega
 exact aPQ (hin j om) (hin k hk) (hB.asc j k hjk hk)
theorem aNo(hB:Bfs (goS a) (aB a.al) a.nx.length (ordA a).length [] (ordA a) W){j k:Nat}(hj:j<(ordA a).length)(hk:k<(ordA a).length)(e:txt (W j)=txt (W k)):j=k:=by
 rcases Db j k with h|h|h
 ·have:=U7 hB h hk;rw[e]at this;exact(EO _ this).elim
 ·exact h
 ·have:=U7 hB h hj;rw[e]at this;exact(EO _ this).elim
theorem aMC(hB:Bfs (goS a) (aB a.al) a.nx.length (ordA a).length [] (ordA a) W):((List.range (ordA a).length).map fun q=>txt (W q)).Pairwise fun x y=>cmpX x y<0:=by
 rw[List.pairwise_map];refine List.Pairwise.imp_of_mem ?_ (List.pairwise_lt_range (n:=(ordA a).length));intro j k hj hk hjk;exact U7 hB hjk (Ch.1 hk)
theorem aKH(h:AOK a):aBV (gC a a.nx.length 0)=b6 a:=by
 obtain⟨W,hB⟩:=r8 h;rw[BB h hB];have hasc:=aMC hB
 have hfd:∀(q:Nat) (b:Str),(if(oneG a (q:Nat)).2=true then some (txt (oneG a (q:Nat)).1)else none)=some b->∃p,p<(ordA a).length/\(ordA a).getD p 0=(q:Int)/\b=txt (W p):=by
  intro q b hb
  by_cases hq:(q:Int)∈ordA a
  ·obtain⟨e,hp⟩:=zD hq;have:=HB h hB hp;rw[e]at this;rw[this]at hb;simp at hb;exact⟨_,hp,e,hb.symm⟩
  ·rw[aNm h hq]at hb;simp at hb
 unfold aBV;refine((List.mergeSort_perm _ _).trans ((List.perm_ext_iff_of_nodup ?_ ?_).2 ?_)).eq_of_pairwise (fun x y _ _ h1 h2=>ZH h1 h2) (List.pairwise_mergeSort JK I9 _) (hasc.imp aLt)
 ·unfold gC;refine List.Pairwise.filterMap _ ?_ (List.nodup_range' (s:=0) (n:=a.nx.length));intro p q hpq b hb c hc e;obtain⟨p1,g1,g2,g3⟩:=hfd p b hb;obtain⟨q1,k1,k2,k3⟩:=hfd q c hc;have:=aNo hB g1 k1 (by rw[<-g3,<-k3,e]);subst this;rw[g2]at k2;exact hpq om
 ·exact hasc.imp fun {x y} hxy e=>by rw[e]at hxy;exact EO _ hxy
 ·intro b;unfold gC;rw[List.mem_filterMap,Bp]
  constructor
  ·rintro⟨q,hq,hb⟩;obtain⟨p,h1,_,h3⟩:=hfd q b hb;exact⟨p,Ch.2 h1,h3.symm⟩
  ·rintro⟨p,hp,rfl⟩;have hp:=Ch.1 hp;obtain⟨v0,v1⟩:=hB.rng _ (sJ hp);refine⟨((ordA a).getD p 0).toNat,?_,?_⟩
   ·rw[Cq];omega
   ·rw[Cr v0,HB h hB hp,if_pos rfl]
end
end
theorem vD{n:Nat}{W:Nat->List Int}{i:Nat}(hi:i<n):((List.range n).map fun q=>txt (W q)).getD i []=txt (W i):=by
 rw[Aa,Bd,List.getElem?_range hi];rfl
theorem aHm{a:Aut}{W:Nat->List Int}(hB:Bfs (goS a) (aB a.al) a.nx.length (ordA a).length [] (ordA a) W):∀(c i:Nat),i<=c->i<(ordA a).length->(W i).length<=i:=by
 intro c
 induction c with
 |zero=>
  intro i hi _;obtain rfl:i=0:=om;rw[hB.w0];simp
 |succ c ih=>
  intro i hi hl
  rcases Cs i with rfl|h0
  ·rw[hB.w0];simp
  ·obtain⟨p,l,hp,_,e,_⟩:=hB.pre i h0 hl;have:=ih p om om;rw[e,Af]
   simp;omega
theorem aCQ{al:Int}(ha:jF al=true){w:List Int}(hw:∀l∈w,l∈aB al)(hl:w.length<=50000):lJ al (txt w)=true/\cJ (txt w)=true:=by
 have key:∀b∈txt w,okB b=true/\dS al (ltr b)=true:=by
  intro b hb;obtain⟨l,hlm,rfl⟩:=Bp.1 hb;have hb:=cF l (hw l hlm);have h2:=(fZ.1 (hw l hlm)).2;unfold okB;rw[RA hb.1 hb.2,h2];simp[pW];omega
 have hlen:(txt w).length=w.length:=by unfold txt;rw[Ay]
 constructor
 ·unfold lJ;simp only[Ar,decide_eq_true_eq,Bf];refine⟨⟨ha,by omega⟩,fun b hb=> ?_⟩;unfold inB;rw[(key b hb).1,(key b hb).2];rfl
 ·unfold cJ;simp only[Ar,decide_eq_true_eq,Bf];exact⟨by omega,fun b hb=>(key b hb).1⟩
theorem aGy{a:Aut}:∀(w:List Int) (q:Int),(∀l∈w,l∈aB a.al)->stGo a.al a.nx (txt w) q=w.foldl (goS a) q
 | [],_,_=>rfl
 |l::w,q,h=>by
  have hb:=cF l (h l Bi);show stGo a.al a.nx (txt w) (goI a.al a.nx q (ltr (bR l)))=_;rw[RA hb.1 hb.2,aGy w _ fun m hm=>h m (Be _ hm)];rfl
structure CovOK(a:Aut)(l:List Str):Prop where
 len:l.length=(cU a).nx.length
 pos:0<l.length
 big:l.length<=12
 first:l.getD 0 []=[]
 acc:∀i,i<l.length->∃u,txt u=l.getD i []/\accG a (MZ a.al a.nx a.ac (l.getD i []))=(u,true)
 ok:∀i,i<l.length->cJ (l.getD i [])=true
 short:∀i,i<l.length->(l.getD i []).length<=4294967295
 asc:∀i,i+1<l.length->cmpX (l.getD i []) (l.getD (i+1) [])<0
theorem aN9{a:Aut}(h:AOK a):CovOK a (b6 a):=by
 obtain⟨W,hB⟩:=r8 h;obtain⟨a1,a2,a3,ha⟩:=j8 h;have hn:=hY hB.nod hB.rng;have hp:=hB.pos;rw[BB h hB];have hl:((List.range (ordA a).length).map fun q=>txt (W q)).length=(ordA a).length:=by rw[Ay,List.length_range]
 have hw:∀i,i<(ordA a).length->(W i).length<=12:=fun i hi=>by have:=aHm hB i i (Ab _) hi;omega
 refine⟨?_,by omega,by omega,?_,?_,?_,?_,?_⟩
 ·rw[hl];exact(Ay _).symm
 ·rw[vD hp,hB.w0];rfl
 ·intro i hi;rw[hl]at hi;rw[vD hi];refine⟨W i,rfl,?_⟩
  have hst:MZ a.al a.nx a.ac (txt (W i))=(ordA a).getD i 0:=by
   unfold MZ;have:=(aCQ ha (hB.lts i hi) (by have:=hw i hi;omega)).1;rw[show cY a.al a.nx a.ac=true from h,this,aGy _ _ (hB.lts i hi),hB.run i hi];rfl
  rw[hst];unfold accG;rw[if_pos (show cY a.al a.nx a.ac=true from h),HB h hB hi]
 ·intro i hi;rw[hl]at hi;rw[vD hi];exact(aCQ ha (hB.lts i hi) (by have:=hw i hi;omega)).2
 ·intro i hi;rw[hl]at hi;rw[vD hi];have:=hw i hi;unfold txt;rw[Ay];omega
 ·intro i hi;rw[hl]at hi;rw[vD om,vD hi];exact U7 hB om hi
section
variable{R:Type}{L n:Nat}
def sepJ(a:Aut)(i:Int):Nat->Nat->List Str->List Str
 |0,_,o=>o
 |q+1,j,o=>if(jB a i j).2=true/\txt (jB a i j).1∉o then sepJ a i q (j+1) (o++[txt (jB a i j).1])else sepJ a i q (j+1) o
def sepA(a:Aut):Nat->Nat->List Str->List Str
 |0,_,o=>o
 |q+1,i,o=>sepA a q (i+1) (sepJ a i (a.nx.length-(i+1)) (i+1) o)
def sepW(a:Aut):List Str:=sepA a a.nx.length 0 [[]]
theorem FJ{a:Aut}{i:Int}:∀(q j:Nat) (o:List Str),o.length<=(sepJ a i q j o).length/\(sepJ a i q j o).length<=o.length+q
 |0,_,o=>⟨Ab _,Ab _⟩
 |q+1,j,o=>by
  unfold sepJ
  split
  ·have:=FJ (a:=a) (i:=i) q (j+1) (o++[txt (jB a i j).1]);simp at this|-;omega
  ·have:=FJ (a:=a) (i:=i) q (j+1) o;omega
theorem aFN{a:Aut}:∀(q i:Nat) (o:List Str),o.length<=(sepA a q i o).length/\(sepA a q i o).length<=o.length+q*a.nx.length
 |0,_,o=>by simp[sepA]
 |q+1,i,o=>by
  unfold sepA;have h1:=FJ (a:=a) (i:=i) (a.nx.length-(i+1)) (i+1) o;have h2:=aFN (a:=a) q (i+1) (sepJ a i (a.nx.length-(i+1)) (i+1) o);rw[Nat.succ_mul];omega
theorem ON{a:Aut}(h:AOK a):1<=(sepW a).length/\(sepW a).length<=145:=by
 obtain⟨_,_,h1,h2,_⟩:=bK h;have:=aFN (a:=a) a.nx.length 0 [[]];have hm:a.nx.length*a.nx.length<=12*12:=Nat.mul_le_mul h2 h2;unfold sepW;simp only[Ad,Ac]at this;omega
theorem E7(hn:12<=n)(hL:2^60<=L){a:Aut}(ha:AOK a){i:Nat}(hi:i<a.nx.length){k:KE R}:∀(q j m:Nat) (o:List Str) (len:Nat) (hq:j+q=a.nx.length) (hm:q<m) (hlen:len=o.length) (ho:o.length+q<=100000),
  aS env (aA env L n) L 0 [] Bz33 (gS 1) (U1 (Z4 (Z1 (U32 (U8 (U1 ([]))))))) m (Y1 (.ptr 0 0 0::.d .nils::.sl 1 0 0 len::nI i::nI j::Y32 (Y8 (Y1 ([]))))) [.box [nI a.al,.d (.ivs a.nx.length (aL a.nx)),.d (.ivs a.ac.length (aJ a.ac))],.arr (aK o) 1 0] k
  =k (.exit 2) (Y1 (.ptr 0 0 0::.d .nils::.sl 1 0 0 (sepJ a i q j o).length::nI i::nI (a.nx.length)::Y32 (Y8 (Y1 ([]))))) [.box [nI a.al,.d (.ivs a.nx.length (aL a.nx)),.d (.ivs a.ac.length (aJ a.ac))],.arr (aK (sepJ a i q j o)) 1 0]:=by
 obtain⟨sa,wa,a1,a2,a3⟩:=bK ha;have hac:a.ac.length<=4294967296:=om;intro q
 induction q with
 |zero=>
  intro j m o len hq hm hlen ho;obtain _|m:=m;omega;obtain rfl:j=a.nx.length:=om;subst hlen
  simp-implicitDefEqProofs (maxSteps:=9^7) (disch:=try exact Dz) only[↓DN,↓kRet,UP,simprocAttr,Aj,gA,fS,Tryz.f37]<;>rfl
 |succ q ih=>
  intro j m o len hq hm hlen ho;obtain _|m:=m;omega;subst hlen;have hc:(j:Int)<a.nx.length:=om;have kc_s:=@YR L a i j sa hac hL;have hal:=sa.1;simp only[sepJ];generalize jB a i j=r at *;obtain⟨w,b⟩:=r;simp only at kc_s|-;have kl_i:=@aJ3 L o (txt w) om hL
  cases b with
  |false=>
   have ih':=ih (j+1) m o o.length om om rfl om;rw[cs1 j]at ih';rw[if_neg fun h=>by cases h.1];clear ih
   simp-implicitDefEqProofs (maxSteps:=9^7) (disch:=try exact Dz) only[↓DN,↓kRet,UP,simprocAttr,hc,↓kc_s,↓ih',gA,fS,Tryz.f37]
  |true=>
   by_cases h:txt w∈o
   ·have ih':=ih (j+1) m o o.length om om rfl om;rw[cs1 j]at ih';rw[if_neg fun h2=>h2.2 h];rw[decide_eq_true h]at kl_i;clear ih
    simp-implicitDefEqProofs (maxSteps:=9^7) (disch:=try exact Dz) only[↓DN,↓kRet,UP,simprocAttr,↓RU,SE,hc,↓kc_s,↓kl_i,↓ih',gA,fS,Tryz.f37]
   ·have ih':=ih (j+1) m (o++[txt w]) (o.length+1) om om sm (by simp;omega);rw[cs1 j]at ih';rw[if_pos ⟨rfl,h⟩];rw[decide_eq_false h]at kl_i;clear ih
    simp-implicitDefEqProofs (maxSteps:=9^7) (disch:=try exact Dz) only[↓DN,↓kRet,UP,simprocAttr,↓RU,SE,hc,↓kc_s,↓kl_i,lB,↓ih',gA,fS,Tryz.f37]
theorem F8(hn:12<=n)(hL:2^60<=L){a:Aut}(ha:AOK a){k:KE R}:∀(q i m:Nat) (o:List Str) (len:Nat) (hq:i+q=a.nx.length) (hm:q<m) (hlen:len=o.length) (ho:o.length+q*12<=10000),
  aS env (aA env L n) L 0 [] Bz33 (gS 0) (U1 (Z4 (U32 (U8 (U2 ([])))))) m (Y1 (.ptr 0 0 0::.d .nils::.sl 1 0 0 len::nI i::Y32 (Y8 (Y2 ([]))))) [.box [nI a.al,.d (.ivs a.nx.length (aL a.nx)),.d (.ivs a.ac.length (aJ a.ac))],.arr (aK o) 1 0] k
  =k (.exit 0) (Y1 (.ptr 0 0 0::.d .nils::.sl 1 0 0 (sepA a q i o).length::nI (a.nx.length)::Y32 (Y8 (Y2 ([]))))) [.box [nI a.al,.d (.ivs a.nx.length (aL a.nx)),.d (.ivs a.ac.length (aJ a.ac))],.arr (aK (sepA a q i o)) 1 0]:=by
 obtain⟨sa,wa,a1,a2,a3⟩:=bK ha;intro q
 induction q with
 |zero=>
  intro i m o len hq hm hlen ho;obtain _|m:=m;omega;obtain rfl:i=a.nx.length:=om;subst hlen
  simp-implicitDefEqProofs (maxSteps:=9^7) (disch:=try exact Dz) only[↓DN,↓kRet,UP,simprocAttr,Aj,qS,mY,Tryz.f37]<;>rfl
 |succ q ih=>
  intro i m o len hq hm hlen ho;obtain _|m:=m;omega;subst hlen;have hc:(i:Int)<a.nx.length:=om;have loop_c:=fun {R n k} hn=> @E7 R L n hn hL a ha i om k (a.nx.length-(i+1)) (i+1) L o o.length om om rfl om;rw[cs1 i]at loop_c;have hl:=(FJ (a:=a) (i:=i) (a.nx.length-(i+1)) (i+1) o).2;have ih':=ih (i+1) m (sepJ a i (a.nx.length-(i+1)) (i+1) o) _ om om rfl om;rw[cs1 i]at ih';simp only[sepA];clear ih;generalize sepJ a i (a.nx.length-(i+1)) (i+1) o=w at *
  simp-implicitDefEqProofs (maxSteps:=9^7) (disch:=try exact Dz) only[↓DN,↓kRet,UP,simprocAttr,hc,↓loop_c,↓ih',qS,mY,Tryz.f37]
def sepR(a:Aut):List Str:=if cY a.al a.nx a.ac=true then sepW a else []
theorem wI(hn:13<=n)(a:Aut)(hs:bB a.nx)(hac:a.ac.length<=4294967296)(hL:2^60<=L):aA env L n 37 [.agg [nI a.al,.d (.ivs a.nx.length (aL a.nx)),.d (.ivs a.ac.length (aJ a.ac))]] []=some (.d (.ivs (sepR a).length (aK (sepR a))),[]):=by
 have hrl:=hs.1;unfold sepR
 cases hv:cY a.al a.nx a.ac with
 |false=>
  simp only[Ak,if_false,Ac,kA];obtain _|n:=n;omega
  simp-implicitDefEqProofs (maxSteps:=9^7) (disch:=try exact Dz) only[↓DN,↓kAsg,↓kRet,UP,simprocAttr,↓bL,hv,wW,o9,Tryz.f37]
 |true=>
  obtain⟨sa,wa,a1,a2,a3⟩:=bK hv;have loop_c:=fun {R n k} hn=> @F8 R L n hn hL a hv k a.nx.length 0 L [[]] 1 om om rfl (by simp;omega);have e:aK [[]]=[.str []]:=rfl;have e2:sepA a a.nx.length 0 [[]]=sepW a:=rfl;rw[e,e2]at loop_c;have hl:=ON hv;simp only[if_true,Aq]at loop_c|-;generalize sepW a=w at *;have e4:(aK w).take w.length=aK w:=f0 (Ab _);obtain _|n:=n;omega
  simp-implicitDefEqProofs (maxSteps:=9^7) (disch:=try exact Dz) only[↓DN,↓kAsg,↓kRet,UP,simprocAttr,↓bL,SE,hv,e4,↓loop_c,wW,o9,Tryz.f37]
theorem NP:type_of% fun {L} a hs hac hL=>ks fun hn=> @wI L _ hn a hs hac hL:=fun {L} a hs hac hL=>ks fun hn=> @wI L _ hn a hs hac hL
theorem GJ(hn:9<=n)(hL:2^60<=L){a:Aut}(ha:AOK a){i:Nat}(hi:i<a.nx.length){k:KE R}:∀(q j m:Nat) (o:List Str) (len:Nat) (hq:j+q=a.nx.length) (hm:q<m) (hlen:len=o.length) (ho:o.length+q<=100000),
  aS env (aA env L n) L 0 [] Bz16 (gL 1) (U1 (Z4 (Z1 (U8 (Z2 (U16 (U8 (U4 (U2 (U1 ([]))))))))))) m (Y1 (.ptr 0 0 0::.d .nils::.sl 1 0 0 len::nI i::nI j::Y8 (nI (a.nx.length)::nI i::Y16 (Y8 (Y4 (Y2 (Y1 ([])))))))) [.box [nI a.al,.d (.ivs a.nx.length (aL a.nx)),.d (.ivs a.ac.length (aJ a.ac))],.arr (aK o) 1 0] k
  =k (.exit 2) (Y1 (.ptr 0 0 0::.d .nils::.sl 1 0 0 (sepJ a i q j o).length::nI i::nI (a.nx.length)::Y8 (nI (a.nx.length)::nI i::Y16 (Y8 (Y4 (Y2 (Y1 ([])))))))) [.box [nI a.al,.d (.ivs a.nx.length (aL a.nx)),.d (.ivs a.ac.length (aJ a.ac))],.arr (aK (sepJ a i q j o)) 1 0]:=by
 obtain⟨sa,wa,a1,a2,a3⟩:=bK ha;have hac:a.ac.length<=4294967296:=om;intro q
 induction q with
 |zero=>
  intro j m o len hq hm hlen ho;obtain _|m:=m;omega;obtain rfl:j=a.nx.length:=om;subst hlen
  simp-implicitDefEqProofs (maxSteps:=9^7) (disch:=try exact Dz) only[↓DN,↓kRet,UP,simprocAttr,Aj,gH,fR,Tryz.f15]<;>rfl
 |succ q ih=>
  intro j m o len hq hm hlen ho;obtain _|m:=m;omega;subst hlen;have hc:(j:Int)<a.nx.length:=om;have kc_s:=@aAa L a i j sa hac hL;have hal:=sa.1;simp only[sepJ];generalize jB a i j=r at *;obtain⟨w,b⟩:=r;simp only at kc_s|-;have kl_i:=@u4 L o (txt w) om hL
  cases b with
  |false=>
   have ih':=ih (j+1) m o o.length om om rfl om;rw[cs1 j]at ih';rw[if_neg fun h=>by cases h.1];clear ih
   simp-implicitDefEqProofs (maxSteps:=9^7) (disch:=try exact Dz) only[↓DN,↓kRet,UP,simprocAttr,hc,↓kc_s,↓ih',gH,fR,Tryz.f15]
  |true=>
   by_cases h:txt w∈o
   ·have ih':=ih (j+1) m o o.length om om rfl om;rw[cs1 j]at ih';rw[if_neg fun h2=>h2.2 h];rw[decide_eq_true h]at kl_i;clear ih
    simp-implicitDefEqProofs (maxSteps:=9^7) (disch:=try exact Dz) only[↓DN,↓kRet,UP,simprocAttr,↓jU,SE,hc,↓kc_s,↓kl_i,↓ih',gH,fR,Tryz.f15]
   ·have ih':=ih (j+1) m (o++[txt w]) (o.length+1) om om sm (by simp;omega);rw[cs1 j]at ih';rw[if_pos ⟨rfl,h⟩];rw[decide_eq_false h]at kl_i;clear ih
    simp-implicitDefEqProofs (maxSteps:=9^7) (disch:=try exact Dz) only[↓DN,↓kRet,UP,simprocAttr,↓jU,SE,hc,↓kc_s,↓kl_i,lB,↓ih',gH,fR,Tryz.f15]
theorem G7(hn:9<=n)(hL:2^60<=L){a:Aut}(ha:AOK a){k:KE R}:∀(q i m:Nat) (o:List Str) (len:Nat) (hq:i+q=a.nx.length) (hm:q<m) (hlen:len=o.length) (ho:o.length+q*12<=10000),
  aS env (aA env L n) L 0 [] Bz16 (gL 0) (U1 (Z2 (Z1 (U8 (U2 (Z2 (U16 (U8 (U4 (U2 (U1 ([])))))))))))) m (Y1 (.ptr 0 0 0::.d .nils::.sl 1 0 0 len::Y8 (Y2 (nI (a.nx.length)::nI i::Y16 (Y8 (Y4 (Y2 (Y1 ([]))))))))) [.box [nI a.al,.d (.ivs a.nx.length (aL a.nx)),.d (.ivs a.ac.length (aJ a.ac))],.arr (aK o) 1 0] k
  =k (.exit 0) (Y1 (.ptr 0 0 0::.d .nils::.sl 1 0 0 (sepA a q i o).length::Y8 (Y2 (nI (a.nx.length)::nI (a.nx.length)::Y16 (Y8 (Y4 (Y2 (Y1 ([]))))))))) [.box [nI a.al,.d (.ivs a.nx.length (aL a.nx)),.d (.ivs a.ac.length (aJ a.ac))],.arr (aK (sepA a q i o)) 1 0]:=by
 obtain⟨sa,wa,a1,a2,a3⟩:=bK ha;intro q
 induction q with
 |zero=>
  intro i m o len hq hm hlen ho;obtain _|m:=m;omega;obtain rfl:i=a.nx.length:=om;subst hlen
  simp-implicitDefEqProofs (maxSteps:=9^7) (disch:=try exact Dz) only[↓DN,↓kRet,UP,simprocAttr,Aj,qE,mN,Tryz.f15]<;>rfl
 |succ q ih=>
  intro i m o len hq hm hlen ho;obtain _|m:=m;omega;subst hlen;have hc:(i:Int)<a.nx.length:=om;have loop_c:=fun {R n k} hn=> @GJ R L n hn hL a ha i om k (a.nx.length-(i+1)) (i+1) L o o.length om om rfl om;rw[cs1 i]at loop_c;have hl:=(FJ (a:=a) (i:=i) (a.nx.length-(i+1)) (i+1) o).2;have ih':=ih (i+1) m (sepJ a i (a.nx.length-(i+1)) (i+1) o) _ om om rfl om;rw[cs1 i]at ih';simp only[sepA];clear ih;generalize sepJ a i (a.nx.length-(i+1)) (i+1) o=w at *
  simp-implicitDefEqProofs (maxSteps:=9^7) (disch:=try exact Dz) only[↓DN,↓kRet,UP,simprocAttr,hc,↓loop_c,↓ih',qE,mN,Tryz.f15]
theorem x8(hn:10<=n)(a:Aut)(hv:AOK a)(hL:2^60<=L):aA env L n 15 [.agg [nI a.al,.d (.ivs a.nx.length (aL a.nx)),.d (.ivs a.ac.length (aJ a.ac))]] []=some (.sl 0 0 0 (sepW a).length,[.arr (aK (sepW a)) 1 0]):=by
  obtain⟨sa,wa,a1,a2,a3⟩:=bK hv;have hrl:=sa.1;have hac:a.ac.length<=4294967296:=om;have loop_c:=fun {R n k} hn=> @G7 R L n hn hL a hv k a.nx.length 0 L [[]] 1 om om rfl (by simp;omega);have e:aK [[]]=[.str []]:=rfl;have e2:sepA a a.nx.length 0 [[]]=sepW a:=rfl;rw[e,e2]at loop_c;have hl:=ON hv;unfold AOK at hv;simp only[Aq]at loop_c|-;generalize sepW a=w at *;obtain _|n:=n;omega
  simp-implicitDefEqProofs (maxSteps:=9^7) (disch:=try exact Dz) only[↓DN,↓kAsg,↓kRet,UP,simprocAttr,↓bM,hv,↓loop_c,NN,yT,Tryz.f15]
end
section
theorem R3{α:Type}{p q:α->Bool}:∀ {l:List α},(∀x∈l,p x=true->q x=true)->l.countP p=l.countP q->∀x∈l,q x=true->p x=true
 | [],_,_,x,hx,_=>by cases hx
 |a::l,h,he,x,hx,hq=>by
  have hle:=List.countP_mono_left (l:=l) (p:=p) (q:=q) fun y hy=>h y (Be _ hy);rw[Dt,Dt]at he;have ha:=h a Bi
  cases hpa:p a with
  |true=>
   rw[hpa,ha hpa]at he;have he2:l.countP p=l.countP q:=by simpa using he
   rcases At.1 hx with rfl|hx
   ·exact hpa
   ·exact R3 (fun y hy=>h y (Be _ hy)) he2 x hx hq
  |false=>
   cases hqa:q a with
   |true=>
    rw[hpa,hqa]at he;simp at he;omega
   |false=>
    rw[hpa,hqa]at he;have he2:l.countP p=l.countP q:=by simpa using he
    rcases At.1 hx with rfl|hx
    ·rw[hqa]at hq;cases hq
    ·exact R3 (fun y hy=>h y (Be _ hy)) he2 x hx hq
section
variable(go:Int->Int->Int)(ls:List Int)(acc:Int->Bool)
def mO(w:List Int)(q:Int):Int:=w.foldl go q
def jI(k:Nat)(i j:Int):Prop:=∀w:List Int,(∀l∈w,l∈ls)->w.length<=k->acc (mO go w i)=acc (mO go w j)
variable{go ls acc}
theorem aKk{k:Nat}{i:Int}:jI go ls acc k i i:=fun _ _ _=>rfl
theorem M4{k:Nat}{i j:Int}(h:jI go ls acc k i j):jI go ls acc k j i:=fun w a b=>(h w a b).symm
theorem AW{k:Nat}{i j m:Int}(h:jI go ls acc k i j)(g:jI go ls acc k j m):jI go ls acc k i m:=fun w a b=>(h w a b).trans (g w a b)
theorem M5{k m:Nat}{i j:Int}(h:jI go ls acc m i j)(hk:k<=m):jI go ls acc k i j:=fun w a b=>h w a (Bv b hk)
theorem aCc{k:Nat}{i j:Int}:jI go ls acc (k+1) i j↔acc i=acc j/\∀l∈ls,jI go ls acc k (go i l) (go j l):=by
 constructor
 ·intro h;refine⟨h [] sm sm,fun l hl w hw hk=> ?_⟩;exact h (l::w) (by intro x hx;rcases At.1 hx with rfl|hx;exact hl;exact hw x hx) (by simp;omega)
 ·rintro⟨h1,h2⟩ w hw hk
  cases w with
  |nil=>exact h1
  |cons l w=>exact h2 l (hw l Bi) w (fun x hx=>hw x (Be _ hx)) (by simp at hk;omega)
variable(go ls acc)
open Classical in
noncomputable def repB(k i:Nat):Bool:=decide (∀j:Nat,j<i->¬jI go ls acc k (j:Int) (i:Int))
noncomputable def repC(n k:Nat):Nat:=(List.range n).countP (repB go ls acc k)
variable{go ls acc}
theorem OS{k i:Nat}:repB go ls acc k i=true↔∀j:Nat,j<i->¬jI go ls acc k (j:Int) (i:Int):=by
 unfold repB;simp
theorem aJx{k:Nat}:∀i:Nat,∃r,r<=i/\repB go ls acc k r=true/\jI go ls acc k (r:Int) (i:Int):=by
 intro i
 induction i using Nat.strongRecOn with
 |ind i ih=>
  by_cases h:∃j:Nat,j<i/\jI go ls acc k (j:Int) (i:Int)
  ·obtain⟨j,hj,ha⟩:=h;obtain⟨r,hr,h1,h2⟩:=ih j hj;exact⟨r,by omega,h1,AW h2 ha⟩
  ·refine⟨i,Ab _,OS.2 fun j hj ha=>h ⟨j,hj,ha⟩,aKk⟩
theorem aGd{k i:Nat}(h:repB go ls acc k i=true):repB go ls acc (k+1) i=true:=by
 rw[OS]at h|-;exact fun j hj ha=>h j hj (M5 ha om)
theorem aQs{n k:Nat}:repC go ls acc n k<=repC go ls acc n (k+1):=List.countP_mono_left fun _ _ h=>aGd h
theorem aKE{n k:Nat}(he:repC go ls acc n k=repC go ls acc n (k+1)){i j:Nat}(hi:i<n)(hj:j<n)(h:jI go ls acc k (i:Int) (j:Int)):jI go ls acc (k+1) (i:Int) (j:Int):=by
 have key:=R3 (l:=List.range n) (fun x _ h=>aGd (go:=go) (ls:=ls) (acc:=acc) (k:=k) (i:=x) h) he;obtain⟨r,hr,r1,r2⟩:=aJx (go:=go) (ls:=ls) (acc:=acc) (k:=k+1) i;obtain⟨s,hs,s1,s2⟩:=aJx (go:=go) (ls:=ls) (acc:=acc) (k:=k+1) j;have r3:=key r (Ch.2 om) r1;have s3:=key s (Ch.2 om) s1;rw[OS]at r3 s3;have hrs:jI go ls acc k (r:Int) (s:Int):=AW (M5 r2 om) (AW h (M4 (M5 s2 om)))
 have e:r=s:=by
  rcases Db r s with h1|h1|h1
  ·exact absurd hrs (s3 r h1)
  ·exact h1
  ·exact absurd (M4 hrs) (r3 s h1)
 subst e;exact AW (M4 r2) s2
theorem aOu{n:Nat}:∀k:Nat,(∀m,m<k->repC go ls acc n m≠repC go ls acc n (m+1))->repC go ls acc n 0+k<=repC go ls acc n k
 |0,_=>Ab _
 |k+1,h=>by
  have h1:=aOu (n:=n) k fun m hm=>h m om;have h2:=aQs (go:=go) (ls:=ls) (acc:=acc) (n:=n) (k:=k);have h3:=h k om;omega
theorem aIe{n:Nat}(hgo:∀q l:Int,0<=q->q<n->l∈ls->0<=go q l/\go q l<n){i j:Int}(hi:0<=i/\i<n)(hj:0<=j/\j<n){w:List Int}(hw:∀l∈w,l∈ls)(hd:acc (mO go w i)≠acc (mO go w j)):
  ∃v:List Int,(∀l∈v,l∈ls)/\v.length<n/\acc (mO go v i)≠acc (mO go v j):=by
 have hn:1<=n:=om
 have hle:∀k,repC go ls acc n k<=n:=fun k=>by
  have:=List.countP_le_length (p:=repB go ls acc k) (l:=List.range n)
  simpa [repC]using this
 have h0:1<=repC go ls acc n 0:=by
  unfold repC;rw[Nat.succ_le_iff,List.countP_pos_iff];exact⟨0,Ch.2 om,OS.2 fun j hj=>by omega⟩
 obtain⟨k,hk,he⟩:∃k,k<n/\repC go ls acc n k=repC go ls acc n (k+1):=by
  apply Ed;intro hc;have:=aOu (go:=go) (ls:=ls) (acc:=acc) (n:=n) n fun m hm he=>hc ⟨m,hm,he⟩;have:=hle n;omega
 have stay:∀d:Nat,∀a b:Nat,a<n->b<n->jI go ls acc k (a:Int) (b:Int)->jI go ls acc (k+d) (a:Int) (b:Int):=by
  intro d
  induction d with
  |zero=>intro a b _ _ h;exact h
  |succ d ih=>
   intro a b ha hb h;have h1:=aKE he ha hb h;rw[aCc]at h1;rw[show k+(d+1)=(k+d)+1 by omega,aCc];refine⟨h1.1,fun l hl=> ?_⟩;have ga:=hgo a l om om hl;have gb:=hgo b l om om hl
   have:=ih (go a l).toNat (go b l).toNat om om (by
    rw[Cr ga.1,Cr gb.1];exact h1.2 l hl)
   rwa [Cr ga.1,Cr gb.1]at this
 apply Ed;intro hc
 have hal:jI go ls acc k ((i.toNat:Nat):Int) ((j.toNat:Nat):Int):=by
  intro v hv hvl;rw[Cr hi.1,Cr hj.1];apply Ed;intro h;exact hc ⟨v,hv,by omega,h⟩
 have:=stay w.length i.toNat j.toNat om om hal w hw om;rw[Cr hi.1,Cr hj.1]at this;exact hd this
end
end
def goA(a:Aut)(q l:Int):Int:=goI a.al a.nx q l
def accA(a:Aut)(q:Int):Bool:=a.ac.getD q.toNat false
theorem EJ{a:Aut}(h:AOK a):∀q l:Int,0<=q->q<a.nx.length->l∈aB a.al->0<=goA a q l/\goA a q l<a.nx.length:=by
 intro q l h0 h1 hl;have:=cF l hl;exact mI h h0 h1 this.1 om
theorem G5{a:Aut}(h:AOK a):∀(w:List Int) (q:Int),(∀l∈w,l∈aB a.al)->0<=q->q<a.nx.length->0<=mO (goA a) w q/\mO (goA a) w q<a.nx.length
 | [],q,_,h0,h1=>⟨h0,h1⟩
 |l::w,q,hw,h0,h1=>by
  have hg:=EJ h q l h0 h1 (hw l Bi);exact G5 h w _ (fun x hx=>hw x (Be _ hx)) hg.1 hg.2
theorem NW{x y n:Int}(hn:0<n)(hx:0<=x)(hy:0<=y)(hy2:y<n):(x*n+y).tdiv n=x/\(x*n+y).tmod n=y:=by
 have h0:0<=x*n+y:=by
  have:=Int.mul_nonneg hx (Int.le_of_lt hn);omega
 rw[Ef h0,Eg h0,Int.add_comm,Int.add_mul_ediv_right _ _ om,Int.add_mul_emod_self_right,Int.ediv_eq_zero_of_lt hy hy2,Int.emod_eq_of_lt hy hy2];omega
theorem N7{a:Aut}(h:AOK a):∀(w:List Int) (i j u:Int),0<=i->i<a.nx.length->0<=j->j<a.nx.length->
  (Path (nxT a a) (aB a.al) (i*a.nx.length+j) w u↔(∀l∈w,l∈aB a.al)/\u=mO (goA a) w i*a.nx.length+mO (goA a) w j)
 | [],i,j,u,_,_,_,_=>by
  simp only[Path,mO,List.foldl_nil]
  constructor
  ·rintro rfl;exact⟨by simp,rfl⟩
  ·rintro⟨_,rfl⟩;rfl
 |l::w,i,j,u,i0,i1,j0,j1=>by
  obtain⟨e1,e2⟩:=NW (n:=(a.nx.length:Int)) om i0 j0 j1;simp only[Path,nxT,e1,e2,Bk,exists_eq_left]
  constructor
  ·rintro⟨hl,hp⟩;have gi:=EJ h i l i0 i1 hl;have gj:=EJ h j l j0 j1 hl;obtain⟨h1,h2⟩:=(N7 h w (goA a i l) (goA a j l) u gi.1 gi.2 gj.1 gj.2).1 hp;refine⟨?_,h2⟩;intro x hx
   rcases At.1 hx with rfl|hx
   ·exact hl
   ·exact h1 x hx
  ·rintro⟨hw,hu⟩;have hl:=hw l Bi;have gi:=EJ h i l i0 i1 hl;have gj:=EJ h j l j0 j1 hl;exact⟨hl,(N7 h w (goA a i l) (goA a j l) u gi.1 gi.2 gj.1 gj.2).2 ⟨fun x hx=>hw x (Be _ hx),hu⟩⟩
def aKG(a:Aut)(i j:Int)(w:List Int):Prop:=(∀l∈w,l∈aB a.al)/\accA a (mO (goA a) w i)≠accA a (mO (goA a) w j)
theorem aNH{a:Aut}(h:AOK a){i j:Int}(hi:0<=i/\i<a.nx.length)(hj:0<=j/\j<a.nx.length)(w:List Int):
  Hits (nxT a a) (aB a.al) [i*a.nx.length+j] (glT (fun x y=>x !=y) a a) w↔aKG a i j w:=by
 unfold Hits sB aKG;simp only[Bk,exists_eq_left]
 constructor
 ·rintro⟨u,hp,hg⟩;obtain⟨h1,rfl⟩:=(N7 h w i j u hi.1 hi.2 hj.1 hj.2).1 hp;have ri:=G5 h w i h1 hi.1 hi.2;have rj:=G5 h w j h1 hj.1 hj.2;obtain⟨e1,e2⟩:=NW (n:=(a.nx.length:Int)) om ri.1 rj.1 rj.2;refine⟨h1,?_⟩;unfold glT at hg;rw[e1,e2]at hg
  simpa [accA]using hg
 ·rintro⟨h1,h2⟩;have ri:=G5 h w i h1 hi.1 hi.2;have rj:=G5 h w j h1 hj.1 hj.2;obtain⟨e1,e2⟩:=NW (n:=(a.nx.length:Int)) om ri.1 rj.1 rj.2;refine⟨_,(N7 h w i j _ hi.1 hi.2 hj.1 hj.2).2 ⟨h1,rfl⟩,?_⟩;unfold glT;rw[e1,e2]
  simpa [accA]using h2
theorem aK6{a:Aut}(h:AOK a){i j:Int}(hi:0<=i/\i<a.nx.length)(hj:0<=j/\j<a.nx.length):EG (aKG a i j) (jB a i j):=by
 have hok:LQ a i j=true:=by
  have h':cY a.al a.nx a.ac=true:=h;unfold LQ;rw[h']
  simp;omega
 unfold jB;rw[if_pos hok];refine aCl (aNH h hi hj) ?_;have hs:=EM hi hj
 have hr:∀v c:Int,0<=v->v<((a.nx.length*a.nx.length:Nat):Int)->c∈aB a.al->∀m∈nxT a a v c,0<=m/\m<((a.nx.length*a.nx.length:Nat):Int):=by
  intro v c h0 h1 hc;have:=cF c hc;rw[Cc]at h1|-;exact VJ h h h0 h1 om
 refine aDb (lU _) hr (fun n hn=> ?_) sm;simp only[Bk]at hn;subst hn;rw[Cc];exact hs
theorem aHf{a:Aut}(h:AOK a){i j:Int}(hi:0<=i/\i<a.nx.length)(hj:0<=j/\j<a.nx.length)(h2:(jB a i j).2=true):(jB a i j).1.length<a.nx.length/\∀l∈(jB a i j).1,l∈aB a.al:=by
 rcases aK6 h hi hj with⟨_,hl⟩|⟨he,_⟩
 ·obtain⟨⟨t1,t2⟩,hmin⟩:=hl;refine⟨?_,t1⟩;obtain⟨v,v1,v2,v3⟩:=aIe (go:=goA a) (ls:=aB a.al) (acc:=accA a) (n:=a.nx.length) (EJ h) hi hj t1 t2;apply Ed;intro hc;exact hmin v ⟨v1,v3⟩ (.inl om)
 ·rw[he]at h2;cases h2
theorem aQc{al:Int}(ha:jF al=true){w:List Int}(hw:∀l∈w,l∈aB al)(hl:w.length<=50000):lJ al (txt w)=true:=by
 unfold lJ txt;simp only[Ar,decide_eq_true_eq,Ay,Bf,Bp];refine⟨⟨ha,hl⟩,?_⟩;rintro b ⟨l,hlm,rfl⟩;have hb:=cF l (hw l hlm);have h2:=(fZ.1 (hw l hlm)).2;unfold inB okB;rw[RA hb.1 hb.2,h2];simp[pW];omega
def aAx(a:Aut)(o:List Str):Prop:=o.Nodup/\∀w∈o,w.length<a.nx.length/\lJ a.al w=true
theorem aCt{a:Aut}(h:AOK a){i:Nat}(hi:i<a.nx.length):∀(q j:Nat) (o:List Str),j+q=a.nx.length->aAx a o->aAx a (sepJ a i q j o)
 |0,_,o,_,ho=>ho
 |q+1,j,o,hj,ho=>by
  unfold sepJ
  split
  ·rename_i hc
   refine aCt h hi q (j+1) _ om ⟨?_,fun w hw=> ?_⟩
   ·rw[Ds];refine⟨ho.1,by simp,fun x hx y hy=> ?_⟩;simp only[Bk]at hy;subst hy;rintro rfl;exact hc.2 hx
   ·rcases Al.1 hw with hw|hw
    ·exact ho.2 w hw
    ·simp only[Bk]at hw;subst hw;obtain⟨_,_,_,a2,_⟩:=bK h;obtain⟨s1,s2⟩:=aHf h (i:=i) (j:=j) om om hc.1;exact⟨by simpa [txt]using s1,aQc (j8 h).2.2.2 s2 om⟩
  ·exact aCt h hi q (j+1) o om ho
theorem aJy{a:Aut}(h:AOK a):∀(q i:Nat) (o:List Str),i+q=a.nx.length->aAx a o->aAx a (sepA a q i o)
 |0,_,o,_,ho=>ho
 |q+1,i,o,hi,ho=>by
  unfold sepA;exact aJy h q (i+1) _ om (aCt h om _ (i+1) o om ho)
theorem aPA{a:Aut}(h:AOK a):aAx a (sepW a):=by
 obtain⟨a1,_,_,ha⟩:=j8 h;refine aJy h _ 0 _ om ⟨by simp,fun w hw=> ?_⟩;simp only[Bk]at hw;subst hw;refine⟨by simp;omega,?_⟩;unfold lJ;simp[ha]
def Wk(al:Int)(n:Nat)(w:Str):Prop:=w.length<=n/\∀b∈w,∃l∈aB al,b=bR l
theorem Wk.app{al:Int}{n m:Nat}{u v:Str}(h:Wk al n u)(g:Wk al m v):Wk al (n+m) (u++v):=by
 refine⟨by rw[Af];have:=h.1;have:=g.1;omega,fun b hb=> ?_⟩
 rcases Al.1 hb with hb|hb
 ·exact h.2 b hb
 ·exact g.2 b hb
theorem Wk.txt{al:Int}{n:Nat}{w:Str}(h:Wk al n w):∃u:List Int,w=Ev.txt u/\(∀l∈u,l∈aB al)/\u.length=w.length:=by
 obtain⟨h1,h2⟩:=h;clear h1
 induction w with
 |nil=>exact⟨[],rfl,by simp,rfl⟩
 |cons b w ih=>
  obtain⟨u,e,hu,hl⟩:=ih fun b hb=>h2 b (Be _ hb);obtain⟨l,hlm,e2⟩:=h2 b Bi;refine⟨l::u,by rw[e2,e];rfl,fun x hx=> ?_,by simp[hl]⟩
  rcases At.1 hx with rfl|hx
  ·exact hlm
  ·exact hu x hx
theorem Wk.ok{al:Int}{n:Nat}{w:Str}(ha:jF al=true)(h:Wk al n w)(hn:n<=50000):lJ al w=true/\cJ w=true:=by
 obtain⟨u,e,hu,hl⟩:=h.txt;have:=h.1;rw[e];exact aCQ ha hu om
theorem aP5{al:Int}{n:Nat}{u:List Int}(hu:∀l∈u,l∈aB al)(hl:u.length<=n):Wk al n (txt u):=by
 refine⟨by unfold txt;rw[Ay];exact hl,fun b hb=> ?_⟩;obtain⟨l,hlm,rfl⟩:=Bp.1 hb;exact⟨l,hu l hlm,rfl⟩
theorem aL8{a:Aut}(h:AOK a):∀w∈b6 a,Wk a.al (a.nx.length-1) w:=by
 obtain⟨W,hB⟩:=r8 h;have hn:=hY hB.nod hB.rng;rw[BB h hB];intro w hw;obtain⟨i,hi,rfl⟩:=Bp.1 hw;have hi:=Ch.1 hi;have:=aHm hB i i (Ab _) hi;exact aP5 (hB.lts i hi) om
theorem aMH{a:Aut}(h:AOK a):∀w∈sepW a,Wk a.al (a.nx.length-1) w:=by
 intro w hw;obtain⟨h1,h2⟩:=(aPA h).2 w hw;refine⟨by omega,fun b hb=> ?_⟩;unfold lJ at h2;simp only[Ar,decide_eq_true_eq,Bf]at h2;have hb:=h2.2 b hb;unfold inB at hb;simp only[Ar]at hb;have h3:=hb.1;unfold okB pW at h3;simp only[decide_eq_true_eq]at h3;refine⟨ltr b,fZ.2 ⟨by omega,hb.2⟩,?_⟩;exact aMB.symm
theorem aMa{al:Int}{k:Nat}:∀w∈midG (aB al) k,Wk al k w:=fun w hw=>aDz k w hw
theorem aGC{a:Aut}(h:AOK a){e:Nat}{c m w:Str}(hc:c∈b6 a)(hm:m∈midG (aB a.al) (e+1))(hw:w∈sepW a):Wk a.al (2*a.nx.length+e) (c++m++w):=by
 obtain⟨_,_,a1,_,_⟩:=bK h;have:=((aL8 h c hc).app (aMa m hm)).app (aMH h w hw);exact⟨by have:=this.1;omega,this.2⟩
end Ev
end Go.Proofs.YthlkcebdfbjdoaaGreat
