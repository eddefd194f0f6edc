/-
  The states that words lead to, and automata without the others, walked: the reference's.
-/
import Derived.Test.YthlkcebdfbjdoaaGreatSuiteW
import Derived.Test.YthlkcebdfbjdoaaGreatNetT
import Derived.Test.YthlkcebdfbjdoaaGreatTwo
set_option linter.unusedSimpArgs false
set_option linter.unusedVariables false
set_option maxRecDepth 8000
set_option maxHeartbeats 4000000
namespace Go.Proofs.YthlkcebdfbjdoaaGreat
namespace Ev
section
variable{R:Type}{L n:Nat}
theorem aDg(hn:1<=n){l:List Int}{x:Int}{q:Nat}(hql:q<l.length)(hl:l.length<=4294967290)(hx:l.getD q 0=x)(hne:∀i,i<q->¬l.getD i 0=x){k:KE R}:∀(j i m:Nat) (hi:i+j=q) (hm:j<m),
  aS env (aA env L n) L 0 [] Bz60 (GX 0) (Z2 (U2 (Z2 (U8 (U1 ([])))))) m (.d (.ivs l.length (ints l))::nI x::Y2 (nI 0::nI i::Y8 (Y1 ([])))) [] k
  =k (.exit 0) (.d (.ivs l.length (ints l))::nI x::Y2 (nI 0::nI q::Y8 (Y1 ([])))) []:=by
 intro j
 induction j with
 |zero=>
  intro i m hi hm;obtain _|m:=m;omega;obtain rfl:i=q:=om;have hc:(i:Int)<l.length:=om;have hi0:(0:Int)<=i:=om
  simp-implicitDefEqProofs (maxSteps:=9^7) (disch:=try exact Dz) only[↓DN,↓kRet,UP,simprocAttr,hc,hi0,hx,FV,CZ,Tryz.f103]
 |succ j ih=>
  intro i m hi hm;obtain _|m:=m;omega;have hc:(i:Int)<l.length:=om;have hi0:(0:Int)<=i:=om;have he:=hne i om;have ih':=ih (i+1) m om om;rw[cs1 i]at ih';clear ih
  simp-implicitDefEqProofs (maxSteps:=9^7) (disch:=try exact Dz) only[↓DN,↓kRet,UP,simprocAttr,hc,hi0,he,↓ih',FV,CZ,Tryz.f103]
theorem aPT{l:List Int}{x:Int}{i:Nat}(h:i<l.idxOf x)(hx:x∈l):¬l.getD i 0=x:=by
 obtain⟨_,hq⟩:=zD hx;rw[Aa,Ae om];intro e;have e2:l[i]'om=x:=e;have:=List.not_of_lt_findIdx (p:=(·==x)) (xs:=l) (i:=i) h;rw[e2]at this;simp at this
theorem TI(hn:2<=n)(l:List Int)(x:Int)(hx:x∈l)(hl:l.length<=4294967290)(hL:2^60<=L):aA env L n 103 [.d (.ivs l.length (ints l)),nI x] []=some (nI (idxU l x),[]):=by
 obtain⟨h1,h2⟩:=zD hx;have loop_c:=fun {R n k} hn=> @aDg R L n hn l x (l.idxOf x) h2 hl h1 (fun i hi=>aPT hi hx) k (l.idxOf x) 0 L om om;simp only[Aq]at loop_c;unfold idxU;generalize l.idxOf x=q at *;obtain _|n:=n;omega
 simp-implicitDefEqProofs (maxSteps:=9^7) (disch:=try exact Dz) only[↓DN,↓kAsg,UP,simprocAttr,↓loop_c,aHc,WX,Tryz.f103]
theorem aHn:type_of% fun {L} l x hx hl hL=>ks fun hn=> @TI L _ hn l x hx hl hL:=fun {L} l x hx hl hL=>ks fun hn=> @TI L _ hn l x hx hl hL
theorem ZB(hn:3<=n)(hL:2^60<=L){a:Aut}{i:Nat}{r:List Int}(hr:r.length<=100){k:KE R}:∀(j q m:Nat) (o:List Int) (len:Nat) (hq:q+j=r.length) (hm:j<m) (hlen:len=o.length) (ho:o.length+j<=100000),
  aS env (aA env L n) L 0 [] Bz28 (mQ 1) (U1 (Z4 (Z2 (U32 (U4 ([])))))) m (Y1 (.ptr 0 0 0::.d .nils::.sl 1 0 0 len::nI i::.d (.ivs r.length (ints r))::nI q::Y32 (Y4 ([])))) [.box [nI a.al,.d (.ivs a.nx.length (aL a.nx)),.d (.ivs a.ac.length (aJ a.ac))],.arr (ints o) 1 0] k
  =k (.exit 2) (Y1 (.ptr 0 0 0::.d .nils::.sl 1 0 0 (rowU o (r.drop q)).length::nI i::.d (.ivs r.length (ints r))::nI (r.length)::Y32 (Y4 ([])))) [.box [nI a.al,.d (.ivs a.nx.length (aL a.nx)),.d (.ivs a.ac.length (aJ a.ac))],.arr (ints (rowU o (r.drop q))) 1 0]:=by
 intro j
 induction j with
 |zero=>
  intro q m o len hq hm hlen ho;obtain _|m:=m;omega;obtain rfl:q=r.length:=om;subst hlen
  simp-implicitDefEqProofs (maxSteps:=9^7) (disch:=try exact Dz) only[↓DN,↓kRet,UP,simprocAttr,Aj,u6,uD,Tryz.f102];rw[Bz];rfl
 |succ j ih=>
  intro q m o len hq hm hlen ho;obtain _|m:=m;omega;subst hlen;have hk:q<r.length:=om;have hc:(q:Int)<r.length:=om;have hq0:(0:Int)<=q:=om;have kl_i:=@aEq L o (r.getD q 0) om hL;have hl4:o.length<=4294967290:=om;rw[b7 hk (d:=0)]
  by_cases h:r.getD q 0∈o
  ·have e:rowU o (r.getD q 0::r.drop (q+1))=rowU o (r.drop (q+1)):=by
    unfold rowU;rw[List.foldl_cons,addU,if_pos h]
   have ih':=ih (q+1) m o o.length om om rfl om;rw[cs1 q]at ih';rw[e];rw[decide_eq_true h]at kl_i;clear ih;generalize rowU o (r.drop (q+1))=w at *
   simp-implicitDefEqProofs (maxSteps:=9^7) (disch:=try exact Dz) only[↓DN,↓kRet,UP,simprocAttr,↓AH,hc,hq0,↓kl_i,↓ih',u6,uD,Tryz.f102]
  ·have e:rowU o (r.getD q 0::r.drop (q+1))=rowU (o++[r.getD q 0]) (r.drop (q+1)):=by
    unfold rowU;rw[List.foldl_cons,addU,if_neg h]
   have ih':=ih (q+1) m (o++[r.getD q 0]) (o.length+1) om om sm (by simp;omega);rw[cs1 q]at ih';rw[e];rw[decide_eq_false h]at kl_i;clear ih;generalize rowU (o++[r.getD q 0]) (r.drop (q+1))=w at *
   simp-implicitDefEqProofs (maxSteps:=9^7) (disch:=try exact Dz) only[↓DN,↓kRet,UP,simprocAttr,↓AH,hc,hq0,↓kl_i,↓ih',u6,uD,Tryz.f102]
theorem ZK(hn:3<=n)(hL:2^60<=L){a:Aut}(ha:AOK a){k:KE R}:∀(j i m:Nat) (o:List Int) (W:Nat->List Int) (len:Nat) (hB:Bfs (goS a) (aB a.al) a.nx.length i [] o W) (hi:i<=o.length) (hj:a.nx.length<i+j) (hm:j<m) (hlen:len=o.length),
  aS env (aA env L n) L 0 [] Bz28 (mQ 0) Bz59 m (Y1 (.ptr 0 0 0::.d .nils::.sl 1 0 0 len::nI i::Y32 (Y4 (Y2 ([]))))) [.box [nI a.al,.d (.ivs a.nx.length (aL a.nx)),.d (.ivs a.ac.length (aJ a.ac))],.arr (ints o) 1 0] k
  =k (.exit 0) (Y1 (.ptr 0 0 0::.d .nils::.sl 1 0 0 (ordB (goS a) (aB a.al) j i o).length::nI ((ordB (goS a) (aB a.al) j i o).length:Int)::Y32 (Y4 (Y2 ([]))))) [.box [nI a.al,.d (.ivs a.nx.length (aL a.nx)),.d (.ivs a.ac.length (aJ a.ac))],.arr (ints (ordB (goS a) (aB a.al) j i o)) 1 0]:=by
 obtain⟨sa,wa,a1,a2,a3⟩:=bK ha;have hal:=sa.1
 have last:∀(i m:Nat) (o:List Int) (len:Nat),i=o.length->0<m->len=o.length->aS env (aA env L n) L 0 [] Bz28 (mQ 0) Bz59 m (Y1 (.ptr 0 0 0::.d .nils::.sl 1 0 0 len::nI i::Y32 (Y4 (Y2 ([]))))) [.box [nI a.al,.d (.ivs a.nx.length (aL a.nx)),.d (.ivs a.ac.length (aJ a.ac))],.arr (ints o) 1 0] k
  =k (.exit 0) (Y1 (.ptr 0 0 0::.d .nils::.sl 1 0 0 o.length::nI (o.length:Int)::Y32 (Y4 (Y2 ([]))))) [.box [nI a.al,.d (.ivs a.nx.length (aL a.nx)),.d (.ivs a.ac.length (aJ a.ac))],.arr (ints o) 1 0]:=by
  intro i m o len hi hm hlen;obtain _|m:=m;omega;subst hi;subst hlen
  simp-implicitDefEqProofs (maxSteps:=9^7) (disch:=try exact Dz) only[↓DN,↓kRet,UP,simprocAttr,Aj,FY,CL,Tryz.f102]
 intro j
 induction j with
 |zero=>
  intro i m o W len hB hi hj hm hlen;have:=hY hB.nod hB.rng;omega
 |succ j ih=>
  intro i m o W len hB hi hj hm hlen;unfold ordB
  by_cases hlt:i<o.length
  ·obtain _|m:=m;omega;subst hlen;rw[if_pos hlt];obtain⟨v0,v1⟩:=hB.rng _ (sJ hlt);have hrm:=aC2 ha v0 v1;obtain⟨W1,h1,h2⟩:=Bfs.row (lU _) (fun l hl=>aJG ha _ l v0 v1 hl) (aB a.al) [] o W hB rfl hlt rfl;rw[hrm]at h1 h2|-;have hn1:=hY hB.nod hB.rng;have hrl:=(JF ha (i:=(o.getD i 0).toNat) om).1;have hll:=bV a.al;have loop_c:=fun {R n k} hn=> @ZB R L n hn hL a i (rowA a (o.getD i 0)) (by unfold rowA;omega) k (rowA a (o.getD i 0)).length 0 L o o.length om (by unfold rowA;omega) rfl (by unfold rowA;omega);rw[Bc]at loop_c;have ih':=ih (i+1) m (rowU o (rowA a (o.getD i 0))) W1 _ h1.next om om om rfl;rw[cs1 i]at ih';simp only[Aq]at loop_c;have hc:(i:Int)<o.length:=om;have hi0:(0:Int)<=i:=om;clear ih h1 hB last hrm;unfold rowA at *;generalize hv:o.getD i 0=v at *;have hk:v.toNat<a.nx.length:=om;generalize rowU o (a.nx.getD v.toNat [])=w at *;generalize ordB (goS a) (aB a.al) j (i+1) w=z at *
   simp-implicitDefEqProofs (maxSteps:=9^7) (disch:=try exact Dz) only[↓DN,↓kAsg,↓kRet,UP,simprocAttr,LA,hc,hi0,hv,v0,v1,↓loop_c,↓ih',FY,CL,Tryz.f102]
  ·rw[if_neg hlt];exact last i m o len om om hlen
theorem R5(hn:4<=n)(a:Aut)(ha:AOK a)(hL:2^60<=L):aA env L n 102 [.agg [nI a.al,.d (.ivs a.nx.length (aL a.nx)),.d (.ivs a.ac.length (aJ a.ac))]] []=some (.d (.ivs (ordA a).length (ints (ordA a))),[]):=by
 obtain⟨sa,wa,a1,a2,a3⟩:=bK ha;have loop_c:=fun {R n k} hn=> @ZK R L n hn hL a ha k (a.nx.length+1) 0 L [0] (fun _=>[]) 1 (Bfs.start om) om om om rfl;have e:ints [0]=[.int .i64 0]:=rfl;have e2:ordB (goS a) (aB a.al) (a.nx.length+1) 0 [0]=ordA a:=rfl;rw[e,e2]at loop_c;simp only[Aq]at loop_c;obtain⟨W,hB⟩:=r8 ha;have hl:=hY hB.nod hB.rng;clear hB;generalize ordA a=w at *;have e4:(ints w).take w.length=ints w:=by rw[dX (Ab _)]
 obtain _|n:=n;omega
 simp-implicitDefEqProofs (maxSteps:=9^7) (disch:=try exact Dz) only[↓DN,↓kAsg,↓kRet,UP,simprocAttr,e4,↓loop_c,aGJ,X0,Tryz.f102]
theorem aFX:type_of% fun {L} a ha hL=>ks fun hn=> @R5 L _ hn a ha hL:=fun {L} a ha hL=>ks fun hn=> @R5 L _ hn a ha hL
end
def netO(a:Aut)(st:Int):Net:=⟨[],[a],[0],a.al,5,st⟩
theorem aJC{na v:Int}(h0:0<=v)(h1:v<na):decN [na] v=[v]:=by
 show [v.tmod na]=[v]
 rw[Eg h0,Int.emod_eq_of_lt h0 h1]
theorem aLA{a:Aut}(ha:AOK a)(st:Int):U0 (nxS a) (glS st) (aB a.al) a.nx.length 0=oneG a st:=by
 obtain⟨_,_,h1,_,_⟩:=bK ha;refine rH (aHF (fun v c h0 h1 hc=> ?_) (lU _) om om) (ES ha st);have:=cF c hc;exact MP ha h0 h1 om
theorem aE8{L n:Nat}(hn:11<=n)(hL:2^60<=L){a:Aut}(ha:AOK a)(st:Int):
  aA env L n 105 [.agg [.d .nils,.d (.ivs 1 (fV [a])),.d (.ivs 1 (ints [0])),nI a.al,nI 5,nI st]] []=some (.tup [.d (.str (txt (oneG a st).1)),.d (.bool (oneG a st).2)],[]):=by
 obtain⟨sa,aw,a1,a2,a3⟩:=bK ha;have hz:LG (netO a st)=[(a.nx.length:Int)]:=rfl;rw[<-aLA ha st]
 have key:=@SI L n hn hL 1 (fV [a]) 5 st a.al 0 [0] [(a.nx.length:Int)] (nxS a) (glS st) a.nx.length sm rfl (by
   intro q hq
   match q,hq with
   |0,_=>exact⟨by simp,by simp⟩
   |1,_=>simp;omega
   |q+2,hq=>simp at hq) sm (by intro z hz;simp at hz;subst hz;omega) (by
   simp only[NQ,and_true];refine⟨by omega,by omega,?_⟩
   simp) (by simp[encN]) om om
   (fun {n} hn=>by
    have:=@RC L n hn (netO a st) (by simp[netO]) (by simp[netO]) (fun x hx=>by simp[netO]at hx;subst hx;omega) hL;exact this)
   (fun v l hv hl {R n hq k} hn=>by
    have hl2:=cF l hl;rw[aJC om om];have ga:=mI ha (q:=(v:Int)) om om hl2.1 om
    have hnx:nexG (fun i=>[goI a.al a.nx (v:Int) l]) [(a.nx.length:Int)] 1 0 [0]=nxS a v l:=by
     simp[nexG,mulN,nxS]
    rw[<-hnx];refine cK rfl (@R0 L n hn hL 0 1 1 [] (fV [a]) (ints [0]) a.al 5 st [(a.nx.length:Int)] [(v:Int)] l (fun i=>[goI a.al a.nx (v:Int) l]) (fun i=>if i=0 then 0 else 11) rfl sm (fun t ht {R n hq k} hn=> ?_) (fun t ht=> ?_) (fun t ht=> ?_) (fun t ht c hc=> ?_) sm (fun t ht=> ?_)) rfl (.inr rfl)
    ·match t,ht with
     |0,_=>exact cK rfl (y7 hn (netO a st) 0 _ l (Ab _) (by simp[netO]) (by simp[netO]) (by simp[netO]) a rfl sa aw (by show(0:Int)<=(v:Int);omega) (by show(v:Int)<_;omega) hl2.1 om hL) rfl (.inr rfl)
     |t+1,ht=>exact absurd ht (by show ¬(t+1<1);omega)
    ·match t,ht with
     |0,_=>simp;omega
     |t+1,ht=>exact absurd ht (by show ¬(t+1<1);omega)
    ·simp
    ·match t,ht with
     |0,_=>simp at hc;subst hc;simpa using ga
     |t+1,ht=>exact absurd ht (by show ¬(t+1<1);omega)
    ·match t,ht with
     |0,_=>simp;omega
     |t+1,ht=>exact absurd ht (by show ¬(t+1<1);omega))
   (fun v hv {R n k} hn=>by
    rw[aJC om om];have hg:LF (netO a st) [(v:Int)] ((movT (nxS a) (aB a.al) a.nx.length).getD v [])=glS st v:=rfl;rw[<-hg];exact kQ (aE9 om (netO a st) [(v:Int)] ((movT (nxS a) (aB a.al) a.nx.length).getD v []) rfl (by simp[netO]) (by simp[netO]) sm) rfl)
   (fun v c h0 h1 hc=>by
    have:=cF c hc;exact⟨by simp[nxS],MP ha h0 h1 om⟩)
 exact key
theorem JQ{L n:Nat}(hn:12<=n)(a:Aut)(st:Int)(hs:bB a.nx)(hac:a.ac.length<=4294967296)(hL:2^60<=L):aA env L n 74 [.agg [nI a.al,.d (.ivs a.nx.length (aL a.nx)),.d (.ivs a.ac.length (aJ a.ac))],nI st] []=some (.tup [.d (.str (txt (accG a st).1)),.d (.bool (accG a st).2)],[]):=by
 have hrl:=hs.1;unfold accG
 cases hv:cY a.al a.nx a.ac with
 |false=>
  simp only[Ak,if_false,txt,Ap];obtain _|n:=n;omega
  simp-implicitDefEqProofs (maxSteps:=9^7) (disch:=try exact Dz) only[↓DN,↓kAsg,↓kRet,UP,simprocAttr,↓bL,hv,xQ,rR,Tryz.f74]
 |true=>
  simp only[if_true]
  by_cases h1:0<=st/\st<a.nx.length
  ·obtain⟨h1,h2⟩:=h1;have kc_b:=fun {R:Type} {n:Nat} {k:A->Option R} (hn:11<=n)=>kQ (call:=aA env L n) (k:=k) (f:=105) (@aE8 L n hn hL a hv st) rfl;simp only[fV,ints,Ah,Ap]at kc_b;have kl_b:=fun {R:Type} {n:Nat} {k:A->Option R} (hn:11<=n)=>kc_b (R:=R) (n:=n) (k:=k) hn;have kv_l:=fun {R:Type} {n:Nat} {hq:H} {args:List A} {k:KA R}=>dA (E:=env) (call:=aA env L n) (h:=hq) (k:=k) (args:=args) sE;clear kc_b;generalize oneG a st=r at *;obtain _|n:=n;omega
   simp-implicitDefEqProofs (maxSteps:=9^7) (disch:=try exact Dz) only[↓DN,↓kAsg,↓kRet,UP,simprocAttr,↓bL,↓rJ,hv,h1,h2,↓kv_l,↓kl_b,xQ,rR,Tryz.f74]
  ·rw[aPv hv h1]
   have e3:(decide (0<=st)&&decide (st<a.nx.length))=false:=by
    rw[Bool.and_eq_false_iff,decide_eq_false_iff_not,decide_eq_false_iff_not];omega
   simp only[txt,Ap];obtain _|n:=n;omega
   simp-implicitDefEqProofs (maxSteps:=9^7) (disch:=try exact Dz) only[↓DN,↓kAsg,↓kRet,UP,simprocAttr,↓bL,↓rJ,hv,e3,xQ,rR,Tryz.f74]
theorem aCm:type_of% fun {L} a st hs hac hL=>ks fun hn=> @JQ L _ hn a st hs hac hL:=fun {L} a st hs hac hL=>ks fun hn=> @JQ L _ hn a st hs hac hL
section
variable{R:Type}{L n:Nat}
theorem aIn{f:Int->Int}{r:List Int}{k:Nat}(h:k<r.length):(r.drop k).map f=f (r.getD k 0)::(r.drop (k+1)).map f:=by
 rw[b7 h (d:=0)];rfl
theorem WE{b:List Bool}{x:Bool}:aJ b++[.bool x]=aJ (b++[x]):=by simp[aJ]
theorem aAv(hn:3<=n)(hL:2^60<=L){a:Aut}{o:List Int}{i:Nat}{v:Int}(hio:i<o.length)(hoi:o.getD i 0=v)(v0:0<=v)(v1:v<a.nx.length)(hr:(rowA a v).length<=100)(ho:o.length<=100)(hal:a.nx.length<=100)(hin:∀x∈rowA a v,x∈o){al2:Int}{d e:Nat}{cn cs2:List D}{k:KE R}:∀(j q m:Nat) (r:List Int) (len:Nat) (hq:q+j=(rowA a v).length) (hm:j<m) (hlen:len=r.length) (hr2:r.length+j<=1000),
  aS env (aA env L n) L 0 [] Bz21 (tW 1) (U1 (Z4 (Z2 (Z1 (U32 (U16 (U8 (U4 (U1 ([])))))))))) m (Y1 (.ptr 0 0 0::.ptr 1 0 0::.d (.ivs o.length (ints o))::.ptr 2 0 0::nI i::.sl 3 0 0 len::nI q::Y32 (Y16 (Y8 (Y4 (Y1 ([]))))))) [.box [nI a.al,.d (.ivs a.nx.length (aL a.nx)),.d (.ivs a.ac.length (aJ a.ac))],.box [nI 0,.sl 4 0 0 0,.sl 5 0 0 0],.box [nI al2,.sl 6 0 0 d,.sl 7 0 0 d],.arr (ints r) 1 0,.arr [] 0 0,.arr [] 0 0,.arr cn e 0,.arr cs2 e 0] k
  =k (.exit 2) (Y1 (.ptr 0 0 0::.ptr 1 0 0::.d (.ivs o.length (ints o))::.ptr 2 0 0::nI i::.sl 3 0 0 (r++((rowA a v).drop q).map (idxU o)).length::nI ((rowA a v).length)::Y32 (Y16 (Y8 (Y4 (Y1 ([]))))))) [.box [nI a.al,.d (.ivs a.nx.length (aL a.nx)),.d (.ivs a.ac.length (aJ a.ac))],.box [nI 0,.sl 4 0 0 0,.sl 5 0 0 0],.box [nI al2,.sl 6 0 0 d,.sl 7 0 0 d],.arr (ints (r++((rowA a v).drop q).map (idxU o))) 1 0,.arr [] 0 0,.arr [] 0 0,.arr cn e 0,.arr cs2 e 0]:=by
 have hio1:(i:Int)<o.length:=om;have hi0:(0:Int)<=i:=om;have hvk:v.toNat<a.nx.length:=om;intro j
 induction j with
 |zero=>
  intro q m r len hq hm hlen hr2;obtain _|m:=m;omega;obtain rfl:q=(rowA a v).length:=om;subst hlen;rw[Bz];unfold rowA at *
  simp-implicitDefEqProofs (maxSteps:=9^7) (disch:=try exact Dz) only[↓DN,↓kRet,UP,simprocAttr,LA,hio1,hi0,hoi,v0,v1,Aj,IY,FB,Tryz.f73]
 |succ j ih=>
  intro q m r len hq hm hlen hr2;obtain _|m:=m;omega;subst hlen;have hk:q<(rowA a v).length:=om;have hx:(rowA a v).getD q 0∈o:=hin _ (sJ hk);have ih':=ih (q+1) m (r++[idxU o ((rowA a v).getD q 0)]) (r.length+1) om om sm (by simp;omega);rw[cs1 q]at ih';simp only[Am,Ec]at ih';rw[aIn hk];have kc_x:=@aHn L o ((rowA a v).getD q 0) hx om hL;have hc:(q:Int)<(rowA a v).length:=om;have hq0:(0:Int)<=q:=om;clear ih hx hin;generalize((rowA a v).drop (q+1)).map (idxU o)=w at *;unfold rowA at *;have hr100:r.length<=1000:=om
  simp-implicitDefEqProofs (maxSteps:=9^7) (disch:=try exact Dz) only[↓DN,↓kRet,UP,simprocAttr,LA,hio1,hi0,hoi,v0,v1,hc,hq0,↓kc_x,↓ih',IY,FB,Tryz.f73]
theorem aB4(hn:3<=n)(hL:2^60<=L){a:Aut}(ha:AOK a){o:List Int}(ho:o.length<=12)(hor:∀x∈o,0<=x/\x<a.nx.length)(hin:∀v∈o,∀x∈rowA a v,x∈o){al2:Int}{k:KE R}:∀(j i m:Nat) (d:List (List Int)) (b:List Bool) (len e:Nat) (hi:i+j=o.length) (hm:j<m) (hd:d=(o.take i).map fun v=>(rowA a v).map (idxU o)) (hb:b=(o.take i).map fun v=>a.ac.getD v.toNat false) (hlen:i=len) (he:e=if i=0 then 0 else 1),
  aS env (aA env L n) L 0 [] Bz21 (tW 0) (U1 (Z4 (Z1 (U32 (U16 (U8 (U4 (U2 (U1 ([])))))))))) m (Y1 (.ptr 0 0 0::.ptr 1 0 0::.d (.ivs o.length (ints o))::.ptr 2 0 0::nI i::Y32 (Y16 (Y8 (Y4 (Y2 (Y1 ([])))))))) [.box [nI a.al,.d (.ivs a.nx.length (aL a.nx)),.d (.ivs a.ac.length (aJ a.ac))],.box [nI 0,.sl 3 0 0 0,.sl 4 0 0 0],.box [nI al2,.sl 5 0 0 len,.sl 6 0 0 len],.arr [] 0 0,.arr [] 0 0,.arr (aL d) e 0,.arr (aJ b) e 0] k
  =k (.exit 0) (Y1 (.ptr 0 0 0::.ptr 1 0 0::.d (.ivs o.length (ints o))::.ptr 2 0 0::nI (o.length:Int)::Y32 (Y16 (Y8 (Y4 (Y2 (Y1 ([])))))))) [.box [nI a.al,.d (.ivs a.nx.length (aL a.nx)),.d (.ivs a.ac.length (aJ a.ac))],.box [nI 0,.sl 3 0 0 0,.sl 4 0 0 0],.box [nI al2,.sl 5 0 0 o.length,.sl 6 0 0 o.length],.arr [] 0 0,.arr [] 0 0,.arr (aL (o.map fun v=>(rowA a v).map (idxU o))) (if o.length=0 then 0 else 1) 0,.arr (aJ (o.map fun v=>a.ac.getD v.toNat false)) (if o.length=0 then 0 else 1) 0]:=by
 obtain⟨sa,wa,a1,a2,a3⟩:=bK ha;have hal:=sa.1;intro j
 induction j with
 |zero=>
  intro i m d b len e hi hm hd hb hlen he;obtain _|m:=m;omega;obtain rfl:i=o.length:=om;rw[Cx]at hd hb;subst hd;subst hb;subst hlen;subst he
  simp-implicitDefEqProofs (maxSteps:=9^7) (disch:=try exact Dz) only[↓DN,↓kRet,UP,simprocAttr,Aj,wU,wP,Tryz.f73]
 |succ j ih=>
  intro i m d b len e hi hm hd hb hlen he;obtain _|m:=m;omega;subst hlen;have hio:i<o.length:=om;have hmem:=sJ hio;obtain⟨v0,v1⟩:=hor _ hmem;have hin1:=hin _ hmem;have hrl:=(JF ha (i:=(o.getD i 0).toNat) om).1;have hll:=bV a.al
  have htk:o.take (i+1)=o.take i++[o.getD i 0]:=by
   rw[List.take_add_one,Ae hio,Aa,Ae hio];rfl
  have hdl:d.length=i:=by rw[hd,Ay,Bt];omega
  have hbl:b.length=i:=by rw[hb,Ay,Bt];omega
  have ih':=ih (i+1) m (d++[(rowA a (o.getD i 0)).map (idxU o)]) (b++[a.ac.getD (o.getD i 0).toNat false]) (i+1) 1 om om (by rw[htk,hd,Dk];rfl) (by rw[htk,hb,Dk];rfl) rfl (by rw[if_neg om]);rw[cs1 i]at ih';have loop_c:=fun {R:Type} {n:Nat} {d e:Nat} {cn cs2:List D} {k:KE R} (hn:3<=n)=> @aAv R L n hn hL a o i (o.getD i 0) hio rfl v0 v1 (by unfold rowA;omega) om om hin1 al2 d e cn cs2 k (rowA a (o.getD i 0)).length 0 L [] 0 om (by unfold rowA;omega) rfl (by unfold rowA;rw[Ac];omega);rw[Bc]at loop_c;simp only[Aq,Ao,nR]at loop_c;have hc:(i:Int)<o.length:=om;have hi0:(0:Int)<=i:=om;have hrl2:((rowA a (o.getD i 0)).map (idxU o)).length<=6:=by rw[Ay];unfold rowA;omega
  clear ih hin hor hin1 hmem hd hb htk;generalize(rowA a (o.getD i 0)).map (idxU o)=w at *;generalize rowA a (o.getD i 0)=w0 at *;generalize hv:o.getD i 0=v at *;have hvk:v.toNat<a.nx.length:=om;have hva:v.toNat<a.ac.length:=om;have hva2:v<a.ac.length:=om;have ht:(aL d).take i=aL d:=BY om;have ht2:(aJ b).take i=aJ b:=rX om;have hwt:(ints w).take w.length=ints w:=by rw[dX (Ab _)]
  have hi12:i<=12:=om
  by_cases hz:i=0
  ·obtain rfl:e=0:=by rw[he,if_pos hz]
   clear he hz
   simp-implicitDefEqProofs (maxSteps:=9^7) (disch:=try exact Dz) only[↓DN,↓kAsg,↓kRet,UP,simprocAttr,LA,hc,hi0,hv,v0,hva2,↓loop_c,ht,ht2,hwt,RB,WE,↓ih',wU,wP,Tryz.f73]
  ·obtain rfl:e=1:=by rw[he,if_neg hz]
   clear he hz
   simp-implicitDefEqProofs (maxSteps:=9^7) (disch:=try exact Dz) only[↓DN,↓kAsg,↓kRet,UP,simprocAttr,LA,hc,hi0,hv,v0,hva2,↓loop_c,ht,ht2,hwt,RB,WE,↓ih',wU,wP,Tryz.f73]
theorem WH(hn:6<=n)(a:Aut)(ha:AOK a)(hL:2^60<=L):aA env L n 73 [.agg [nI a.al,.d (.ivs a.nx.length (aL a.nx)),.d (.ivs a.ac.length (aJ a.ac))]] []=some (.agg [.d (.int .i64 (cU a).al),.d (.ivs (cU a).nx.length (aL (cU a).nx)),.d (.ivs (cU a).ac.length (aJ (cU a).ac))],[]):=by
 obtain⟨sa,wa,a1,a2,a3⟩:=bK ha;obtain⟨W,hB⟩:=r8 ha;have hl:=hY hB.nod hB.rng;have hp:=hB.pos
 have hin:∀v∈ordA a,∀x∈rowA a v,x∈ordA a:=by
  intro v hv x hx;obtain⟨v0,v1⟩:=hB.rng v hv;rw[<-aC2 ha v0 v1]at hx;obtain⟨l,hl,rfl⟩:=Bp.1 hx;exact NJ hB hv hl
 have loop_c:=fun {R n k} hn=> @aB4 R L n hn hL a ha (ordA a) om hB.rng hin a.al k (ordA a).length 0 L [] [] 0 0 om om rfl rfl rfl rfl;have kc_o:=@aFX L a ha hL;simp only[Aq,aEp,aMb]at loop_c;rw[if_neg om]at loop_c;have hx1:(cU a).nx.length=(ordA a).length:=Ay _;have hx2:(cU a).ac.length=(ordA a).length:=Ay _;have hx3:(cU a).al=a.al:=rfl;have e1:((ordA a).map fun v=>(rowA a v).map (idxU (ordA a)))=(cU a).nx:=rfl;have e2:((ordA a).map fun v=>a.ac.getD v.toNat false)=(cU a).ac:=rfl;rw[e1,e2]at loop_c;rw[hx1,hx2,hx3];have ht1:(aL (cU a).nx).take (ordA a).length=aL (cU a).nx:=BY om;have ht2:(aJ (cU a).ac).take (ordA a).length=aJ (cU a).ac:=rX om;have hr1:(aL (cU a).nx).length=(ordA a).length:=by rw[qK,hx1]
 have hb1:(aJ (cU a).ac).length=(ordA a).length:=by rw[dV,hx2]
 clear hB hin e1 e2;generalize(cU a).nx=w1 at *;generalize(cU a).ac=w2 at *;generalize ordA a=w at *;obtain _|n:=n;omega
 simp-implicitDefEqProofs (maxSteps:=9^7) (disch:=try exact Dz) only[↓DN,↓kAsg,↓kRet,UP,simprocAttr,↓kc_o,↓loop_c,ht1,ht2,hr1,hb1,Ab,aIH,aBz,Tryz.f73]
theorem aI3:type_of% fun {L} a ha hL=>ks fun hn=> @WH L _ hn a ha hL:=fun {L} a ha hL=>ks fun hn=> @WH L _ hn a ha hL
def yF(x:Aut)(j i:Nat):List Str:=(List.range' i j).map fun q=>txt (accG x (q:Nat)).1
theorem aIQ{x:Aut}{j i:Nat}:yF x (j+1) i=txt (accG x (i:Nat)).1::yF x j (i+1):=by
 simp[yF,Dn]
theorem aIM{a:Aut}(h:AOK a):yF (cU a) (cU a).nx.length 0=b6 a:=by
 obtain⟨W,hB⟩:=r8 h;rw[BB h hB];have hx1:(cU a).nx.length=(ordA a).length:=Ay _;unfold yF;rw[hx1,<-List.range_eq_range'];apply List.map_congr_left;intro q hq;unfold accG;rw[if_pos (show cY (cU a).al (cU a).nx (cU a).ac=true from Y6 h),aMw h hB (Ch.1 hq)]
def UI(a:Aut):List Str:=if cY a.al a.nx a.ac=true then b6 a else []
theorem EE{a:Aut}(h:AOK a):1<=(b6 a).length/\(b6 a).length<=12:=by
 obtain⟨W,hB⟩:=r8 h;obtain⟨sa,wa,a1,a2,a3⟩:=bK h;have hl:=hY hB.nod hB.rng;have hp:=hB.pos;rw[BB h hB,Ay,List.length_range];omega
theorem V6(hn:12<=n)(hL:2^60<=L){a:Aut}(ha:AOK a){k:KE R}:∀(q i m:Nat) (o:List Str) (len:Nat) (hq:i+q=a.nx.length) (hm:q<m) (hlen:len=o.length) (ho:o.length+q<=100000),
  aS env (aA env L n) L 0 [] Bz57 (yE 0) (U2 (Z4 (U16 (U8 (U2 ([])))))) m (Y2 (.d .nils::.ptr 0 0 0::.sl 1 0 0 len::nI i::Y16 (Y8 (Y2 ([]))))) [.box [nI a.al,.d (.ivs a.nx.length (aL a.nx)),.d (.ivs a.ac.length (aJ a.ac))],.arr (aK o) 1 0] k
  =k (.exit 0) (Y2 (.d .nils::.ptr 0 0 0::.sl 1 0 0 (o++yF a q i).length::nI (a.nx.length:Int)::Y16 (Y8 (Y2 ([]))))) [.box [nI a.al,.d (.ivs a.nx.length (aL a.nx)),.d (.ivs a.ac.length (aJ a.ac))],.arr (aK (o++yF a q i)) 1 0]:=by
 obtain⟨sa,wa,a1,a2,a3⟩:=bK ha;have hac:a.ac.length<=4294967296:=om;have hal:=sa.1;intro q
 induction q with
 |zero=>
  intro i m o len hq hm hlen ho;obtain _|m:=m;omega;obtain rfl:i=a.nx.length:=om;subst hlen;have e:yF a 0 a.nx.length=[]:=rfl;rw[e,Ai]
  simp-implicitDefEqProofs (maxSteps:=9^7) (disch:=try exact Dz) only[↓DN,↓kRet,UP,simprocAttr,Aj,yP,uP,Tryz.f36]
 |succ q ih=>
  intro i m o len hq hm hlen ho;obtain _|m:=m;omega;subst hlen;have hc:(i:Int)<a.nx.length:=om;have kc_s:=@aCm L a i sa hac hL;have ih':=ih (i+1) m (o++[txt (accG a (i:Nat)).1]) (o.length+1) om om sm (by simp;omega);rw[cs1 i]at ih';simp only[Am,Ec]at ih';rw[aIQ];clear ih;generalize yF a q (i+1)=w2 at *;generalize accG a (i:Nat)=r at *;obtain⟨w,b⟩:=r;simp only at kc_s ih'|-
  simp-implicitDefEqProofs (maxSteps:=9^7) (disch:=try exact Dz) only[↓DN,↓kRet,UP,simprocAttr,SE,hc,↓kc_s,lB,↓ih',yP,uP,Tryz.f36]
theorem IQ(hn:13<=n)(a:Aut)(hs:bB a.nx)(hac:a.ac.length<=4294967296)(hL:2^60<=L):aA env L n 36 [.agg [nI a.al,.d (.ivs a.nx.length (aL a.nx)),.d (.ivs a.ac.length (aJ a.ac))]] []=some (.d (.ivs (UI a).length (aK (UI a))),[]):=by
 have hrl:=hs.1;unfold UI
 cases hv:cY a.al a.nx a.ac with
 |false=>
  simp only[Ak,if_false,Ac,kA];obtain _|n:=n;omega
  simp-implicitDefEqProofs (maxSteps:=9^7) (disch:=try exact Dz) only[↓DN,↓kAsg,↓kRet,UP,simprocAttr,↓bL,hv,JJ,zZ,Tryz.f36]
 |true=>
  have htr:=Y6 (a:=a) hv;obtain⟨sa,wa,a1,a2,a3⟩:=bK htr;have hl:=EE (a:=a) hv;have loop_c:=fun {R n k} hn=> @V6 R L n hn hL (cU a) htr k (cU a).nx.length 0 L [] 0 om om rfl (by simp;omega);rw[Ao,aIM hv]at loop_c;have kc_t:=@aI3 L a hv hL;simp only[if_true,Aq,kA]at loop_c|-;have hsn:=sa.1;clear htr wa;generalize(cU a)=x at *;generalize b6 a=w at *;have e4:(aK w).take w.length=aK w:=f0 (Ab _);obtain _|n:=n;omega
  simp-implicitDefEqProofs (maxSteps:=9^7) (disch:=try exact Dz) only[↓DN,↓kAsg,↓kRet,UP,simprocAttr,↓bL,SE,hv,e4,↓kc_t,↓loop_c,JJ,zZ,Tryz.f36]
theorem aB7:type_of% fun {L} a hs hac hL=>ks fun hn=> @IQ L _ hn a hs hac hL:=fun {L} a hs hac hL=>ks fun hn=> @IQ L _ hn a hs hac hL
end
end Ev
end Go.Proofs.YthlkcebdfbjdoaaGreat
