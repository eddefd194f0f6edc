/-
  The first word that leads to a state: the reference's way.
-/
import Derived.Test.YtppffbehejpglaaGreatDoorTrimL
import Derived.Test.YtppffbehejpglaaGreatDoorClassS
import Derived.Test.YtppffbehejpglaaGreatDoorLeast
set_option linter.unusedSimpArgs false
set_option linter.unusedVariables false
set_option linter.unusedSectionVars false
set_option maxRecDepth 8000
set_option maxHeartbeats 4000000
namespace Go.Proofs.YtppffbehejpglaaGreatDoor
namespace Ev
def netO(a:Aut)(st:Int):Net:=⟨[],[a],[0],a.al,5,st⟩
theorem aPk{na v:Int}(h0:0<=v)(h1:v<na):decN [na] v=[v]:=by
 show [v.tmod na]=[v]
 rw[Eu h0,Int.emod_eq_of_lt h0 h1]
theorem aSH{a:Aut}(ha:AOK a)(st:Int):aA3 (nxS a) (glS st) (aB a.al) a.nx.length 0=oneG a st:=by
 obtain⟨_,_,h1,_,_⟩:=aR ha;refine tR (aNb (fun v c h0 h1 hc=> ?_) (lG _) om om) (I9 ha st);have:=b9 c hc;exact R3 ha h0 h1 om
theorem aKo{L n:Nat}(hn:11<=n)(hL:2^60<=L){a:Aut}(ha:AOK a)(st:Int):
  aA env L n 118 [.agg [.d .nils,.d (.ivs 1 (gQ [a])),.d (.ivs 1 (ints [0])),nI a.al,nI 5,nI st]] []=some (.tup [.d (.str (txt (oneG a st).1)),.d (.bool (oneG a st).2)],[]):=by
 obtain⟨sa,aw,a1,a2,a3⟩:=aR ha;have hz:R4 (netO a st)=[(a.nx.length:Int)]:=rfl;rw[<-aSH ha st]
 have key:=@X7 L n hn hL 1 (gQ [a]) 5 st a.al 0 [0] [(a.nx.length:Int)] (nxS a) (glS st) a.nx.length sm rfl (by
   intro q hq
   match q,hq with
   |0,_=>exact⟨by simp,by simp⟩
   |1,_=>simp;omega
   |q+2,hq=>simp at hq) sm (by intro z hz;simp at hz;subst hz;omega) (by
   simp only[UB,and_true];refine⟨by omega,by omega,?_⟩
   simp) (by simp[encN]) om om
   (fun {n} hn=>by
    have:=@ZL L n hn (netO a st) (by simp[netO]) (by simp[netO]) (fun x hx=>by simp[netO]at hx;subst hx;omega) hL;exact this)
   (fun v l hv hl {R n hq k} hn=>by
    have hl2:=b9 l hl;rw[aPk om om];have ga:=pE ha (q:=(v:Int)) om om hl2.1 om
    have hnx:nexG (fun i=>[goI a.al a.nx (v:Int) l]) [(a.nx.length:Int)] 1 0 [0]=nxS a v l:=by
     simp[nexG,mulN,nxS]
    rw[<-hnx];refine bV rfl (@YM L n hn hL 0 1 1 [] (gQ [a]) (ints [0]) a.al 5 st [(a.nx.length:Int)] [(v:Int)] l (fun i=>[goI a.al a.nx (v:Int) l]) (fun i=>if i=0 then 0 else 11) rfl sm (fun t ht {R n hq k} hn=> ?_) (fun t ht=> ?_) (fun t ht=> ?_) (fun t ht c hc=> ?_) sm (fun t ht=> ?_)) rfl (.inr rfl)
    ·match t,ht with
     |0,_=>exact bV rfl (DJ hn (netO a st) 0 _ l (Ab _) (by simp[netO]) (by simp[netO]) (by simp[netO]) a rfl sa aw (by show(0:Int)<=(v:Int);omega) (by show(v:Int)<_;omega) hl2.1 om hL) rfl (.inr rfl)
     |t+1,ht=>exact absurd ht (by show ¬(t+1<1);omega)
    ·match t,ht with
     |0,_=>simp;omega
     |t+1,ht=>exact absurd ht (by show ¬(t+1<1);omega)
    ·simp
    ·match t,ht with
     |0,_=>simp at hc;subst hc;simpa using ga
     |t+1,ht=>exact absurd ht (by show ¬(t+1<1);omega)
    ·match t,ht with
     |0,_=>simp;omega
     |t+1,ht=>exact absurd ht (by show ¬(t+1<1);omega))
   (fun v hv {R n k} hn=>by
    rw[aPk om om];have hg:SJ (netO a st) [(v:Int)] ((movT (nxS a) (aB a.al) a.nx.length).getD v [])=glS st v:=rfl;rw[<-hg];exact nB (aJ3 om (netO a st) [(v:Int)] ((movT (nxS a) (aB a.al) a.nx.length).getD v []) rfl (by simp[netO]) (by simp[netO]) sm) rfl)
   (fun v c h0 h1 hc=>by
    have:=b9 c hc;exact⟨by simp[nxS],R3 ha h0 h1 om⟩)
 exact key
theorem NH{L n:Nat}(hn:12<=n)(a:Aut)(st:Int)(hs:aW a.nx)(hac:a.ac.length<=4294967296)(hL:2^60<=L):aA env L n 82 [.agg [nI a.al,.d (.ivs a.nx.length (aE a.nx)),.d (.ivs a.ac.length (aD a.ac))],nI st] []=some (.tup [.d (.str (txt (accG a st).1)),.d (.bool (accG a st).2)],[]):=by
 have hrl:=hs.1;unfold accG
 cases hv:cB a.al a.nx a.ac with
 |false=>
  simp only[Am,if_false,txt,As];obtain _|n:=n;omega
  simp-implicitDefEqProofs (maxSteps:=9^7) (disch:=try exact Dz) only[↓DN,↓kAsg,↓kRet,UP,simprocAttr,↓bB,hv,AN,uO,Tryz.f82]
 |true=>
  simp only[if_true]
  by_cases h1:0<=st/\st<a.nx.length
  ·obtain⟨h1,h2⟩:=h1;have kc_b:=fun {R:Type} {n:Nat} {k:A->Option R} (hn:11<=n)=>nB (call:=aA env L n) (k:=k) (f:=118) (@aKo L n hn hL a hv st) rfl;simp only[gQ,ints,Aj,As]at kc_b;have kl_b:=fun {R:Type} {n:Nat} {k:A->Option R} (hn:11<=n)=>kc_b (R:=R) (n:=n) (k:=k) hn;have kv_l:=fun {R:Type} {n:Nat} {hq:H} {args:List A} {k:KA R}=>eE (E:=env) (call:=aA env L n) (h:=hq) (k:=k) (args:=args) u4;clear kc_b;generalize oneG a st=r at *;obtain _|n:=n;omega
   simp-implicitDefEqProofs (maxSteps:=9^7) (disch:=try exact Dz) only[↓DN,↓kAsg,↓kRet,UP,simprocAttr,↓bB,↓tS,hv,h1,h2,↓kv_l,↓kl_b,AN,uO,Tryz.f82]
  ·rw[aVG hv h1]
   have e3:(decide (0<=st)&&decide (st<a.nx.length))=false:=by
    rw[Bool.and_eq_false_iff,decide_eq_false_iff_not,decide_eq_false_iff_not];omega
   simp only[txt,As];obtain _|n:=n;omega
   simp-implicitDefEqProofs (maxSteps:=9^7) (disch:=try exact Dz) only[↓DN,↓kAsg,↓kRet,UP,simprocAttr,↓bB,↓tS,hv,e3,AN,uO,Tryz.f82]
theorem aFX:type_of% fun {L} a st hs hac hL=>ks fun hn=> @NH L _ hn a st hs hac hL:=fun {L} a st hs hac hL=>ks fun hn=> @NH L _ hn a st hs hac hL
section
variable{R:Type}{L n:Nat}
theorem aCQ{f:Int->Int}{r:List Int}{k:Nat}(h:k<r.length):(r.drop k).map f=f (r.getD k 0)::(r.drop (k+1)).map f:=by
 rw[cC h (d:=0)];rfl
theorem EF{b:List Bool}{x:Bool}:aD b++[.bool x]=aD (b++[x]):=by simp[aD]
theorem aEX(hn:3<=n)(hL:2^60<=L){a:Aut}{o:List Int}{i:Nat}{v:Int}(hio:i<o.length)(hoi:o.getD i 0=v)(v0:0<=v)(v1:v<a.nx.length)(hr:(rowA a v).length<=100)(ho:o.length<=100)(hal:a.nx.length<=100)(hin:∀x∈rowA a v,x∈o){al2:Int}{d e:Nat}{cn cs2:List D}{k:KE R}:∀(j q m:Nat) (r:List Int) (len:Nat) (hq:q+j=(rowA a v).length) (hm:j<m) (hlen:len=r.length) (hr2:r.length+j<=1000),
  aT env (aA env L n) L 0 [] Bz23 (wL 1) (U1 (Z4 (Z2 (Z1 (U32 (U16 (U8 (U4 (U1 ([])))))))))) m (Y1 (.ptr 0 0 0::.ptr 1 0 0::.d (.ivs o.length (ints o))::.ptr 2 0 0::nI i::.sl 3 0 0 len::nI q::Y32 (Y16 (Y8 (Y4 (Y1 ([]))))))) [.box [nI a.al,.d (.ivs a.nx.length (aE a.nx)),.d (.ivs a.ac.length (aD a.ac))],.box [nI 0,.sl 4 0 0 0,.sl 5 0 0 0],.box [nI al2,.sl 6 0 0 d,.sl 7 0 0 d],.arr (ints r) 1 0,.arr [] 0 0,.arr [] 0 0,.arr cn e 0,.arr cs2 e 0] k
  =k (.exit 2) (Y1 (.ptr 0 0 0::.ptr 1 0 0::.d (.ivs o.length (ints o))::.ptr 2 0 0::nI i::.sl 3 0 0 (r++((rowA a v).drop q).map (idxU o)).length::nI ((rowA a v).length)::Y32 (Y16 (Y8 (Y4 (Y1 ([]))))))) [.box [nI a.al,.d (.ivs a.nx.length (aE a.nx)),.d (.ivs a.ac.length (aD a.ac))],.box [nI 0,.sl 4 0 0 0,.sl 5 0 0 0],.box [nI al2,.sl 6 0 0 d,.sl 7 0 0 d],.arr (ints (r++((rowA a v).drop q).map (idxU o))) 1 0,.arr [] 0 0,.arr [] 0 0,.arr cn e 0,.arr cs2 e 0]:=by
 have hio1:(i:Int)<o.length:=om;have hi0:(0:Int)<=i:=om;have hvk:v.toNat<a.nx.length:=om;intro j
 induction j with
 |zero=>
  intro q m r len hq hm hlen hr2;obtain _|m:=m;omega;obtain rfl:q=(rowA a v).length:=om;subst hlen;rw[Bt];unfold rowA at *
  simp-implicitDefEqProofs (maxSteps:=9^7) (disch:=try exact Dz) only[↓DN,↓kRet,UP,simprocAttr,LA,hio1,hi0,hoi,v0,v1,Ah,NA,KO,Tryz.f81]
 |succ j ih=>
  intro q m r len hq hm hlen hr2;obtain _|m:=m;omega;subst hlen;have hk:q<(rowA a v).length:=om;have hx:(rowA a v).getD q 0∈o:=hin _ (jQ hk);have ih':=ih (q+1) m (r++[idxU o ((rowA a v).getD q 0)]) (r.length+1) om om sm (by simp;omega);rw[cs1 q]at ih';simp only[Ao,Do]at ih';rw[aCQ hk];have kc_x:=@ZN L o ((rowA a v).getD q 0) hx om hL;have hc:(q:Int)<(rowA a v).length:=om;have hq0:(0:Int)<=q:=om;clear ih hx hin;generalize((rowA a v).drop (q+1)).map (idxU o)=w at *;unfold rowA at *;have hr100:r.length<=1000:=om
  simp-implicitDefEqProofs (maxSteps:=9^7) (disch:=try exact Dz) only[↓DN,↓kRet,UP,simprocAttr,LA,hio1,hi0,hoi,v0,v1,hc,hq0,↓kc_x,↓ih',NA,KO,Tryz.f81]
theorem aFh(hn:3<=n)(hL:2^60<=L){a:Aut}(ha:AOK a){o:List Int}(ho:o.length<=12)(hor:∀x∈o,0<=x/\x<a.nx.length)(hin:∀v∈o,∀x∈rowA a v,x∈o){al2:Int}{k:KE R}:∀(j i m:Nat) (d:List (List Int)) (b:List Bool) (len e:Nat) (hi:i+j=o.length) (hm:j<m) (hd:d=(o.take i).map fun v=>(rowA a v).map (idxU o)) (hb:b=(o.take i).map fun v=>a.ac.getD v.toNat false) (hlen:i=len) (he:e=if i=0 then 0 else 1),
  aT env (aA env L n) L 0 [] Bz23 (wL 0) (U1 (Z4 (Z1 (U32 (U16 (U8 (U4 (U2 (U1 ([])))))))))) m (Y1 (.ptr 0 0 0::.ptr 1 0 0::.d (.ivs o.length (ints o))::.ptr 2 0 0::nI i::Y32 (Y16 (Y8 (Y4 (Y2 (Y1 ([])))))))) [.box [nI a.al,.d (.ivs a.nx.length (aE a.nx)),.d (.ivs a.ac.length (aD a.ac))],.box [nI 0,.sl 3 0 0 0,.sl 4 0 0 0],.box [nI al2,.sl 5 0 0 len,.sl 6 0 0 len],.arr [] 0 0,.arr [] 0 0,.arr (aE d) e 0,.arr (aD b) e 0] k
  =k (.exit 0) (Y1 (.ptr 0 0 0::.ptr 1 0 0::.d (.ivs o.length (ints o))::.ptr 2 0 0::nI (o.length:Int)::Y32 (Y16 (Y8 (Y4 (Y2 (Y1 ([])))))))) [.box [nI a.al,.d (.ivs a.nx.length (aE a.nx)),.d (.ivs a.ac.length (aD a.ac))],.box [nI 0,.sl 3 0 0 0,.sl 4 0 0 0],.box [nI al2,.sl 5 0 0 o.length,.sl 6 0 0 o.length],.arr [] 0 0,.arr [] 0 0,.arr (aE (o.map fun v=>(rowA a v).map (idxU o))) (if o.length=0 then 0 else 1) 0,.arr (aD (o.map fun v=>a.ac.getD v.toNat false)) (if o.length=0 then 0 else 1) 0]:=by
 obtain⟨sa,wa,a1,a2,a3⟩:=aR ha;have hal:=sa.1;intro j
 induction j with
 |zero=>
  intro i m d b len e hi hm hd hb hlen he;obtain _|m:=m;omega;obtain rfl:i=o.length:=om;rw[Cu]at hd hb;subst hd;subst hb;subst hlen;subst he
  simp-implicitDefEqProofs (maxSteps:=9^7) (disch:=try exact Dz) only[↓DN,↓kRet,UP,simprocAttr,Ah,AB,BP,Tryz.f81]
 |succ j ih=>
  intro i m d b len e hi hm hd hb hlen he;obtain _|m:=m;omega;subst hlen;have hio:i<o.length:=om;have hmem:=jQ hio;obtain⟨v0,v1⟩:=hor _ hmem;have hin1:=hin _ hmem;have hrl:=(gG ha (i:=(o.getD i 0).toNat) om).1;have hll:=bO a.al
  have htk:o.take (i+1)=o.take i++[o.getD i 0]:=by
   rw[Cz,Ad hio,Aa,Ad hio];rfl
  have hdl:d.length=i:=by rw[hd,Al,Bi];omega
  have hbl:b.length=i:=by rw[hb,Al,Bi];omega
  have ih':=ih (i+1) m (d++[(rowA a (o.getD i 0)).map (idxU o)]) (b++[a.ac.getD (o.getD i 0).toNat false]) (i+1) 1 om om (by rw[htk,hd,Cm];rfl) (by rw[htk,hb,Cm];rfl) rfl (by rw[if_neg om]);rw[cs1 i]at ih';have loop_c:=fun {R:Type} {n:Nat} {d e:Nat} {cn cs2:List D} {k:KE R} (hn:3<=n)=> @aEX R L n hn hL a o i (o.getD i 0) hio rfl v0 v1 (by unfold rowA;omega) om om hin1 al2 d e cn cs2 k (rowA a (o.getD i 0)).length 0 L [] 0 om (by unfold rowA;omega) rfl (by unfold rowA;rw[Ac];omega);rw[Ba]at loop_c;simp only[Ap,Aq,kH]at loop_c;have hc:(i:Int)<o.length:=om;have hi0:(0:Int)<=i:=om;have hrl2:((rowA a (o.getD i 0)).map (idxU o)).length<=6:=by rw[Al];unfold rowA;omega
  clear ih hin hor hin1 hmem hd hb htk;generalize(rowA a (o.getD i 0)).map (idxU o)=w at *;generalize rowA a (o.getD i 0)=w0 at *;generalize hv:o.getD i 0=v at *;have hvk:v.toNat<a.nx.length:=om;have hva:v.toNat<a.ac.length:=om;have hva2:v<a.ac.length:=om;have ht:(aE d).take i=aE d:=lE om;have ht2:(aD b).take i=aD b:=iD om;have hwt:(ints w).take w.length=ints w:=by rw[cK (Ab _)]
  have hi12:i<=12:=om
  by_cases hz:i=0
  ·obtain rfl:e=0:=by rw[he,if_pos hz]
   clear he hz
   simp-implicitDefEqProofs (maxSteps:=9^7) (disch:=try exact Dz) only[↓DN,↓kAsg,↓kRet,UP,simprocAttr,LA,hc,hi0,hv,v0,hva2,↓loop_c,ht,ht2,hwt,pM,EF,↓ih',AB,BP,Tryz.f81]
  ·obtain rfl:e=1:=by rw[he,if_neg hz]
   clear he hz
   simp-implicitDefEqProofs (maxSteps:=9^7) (disch:=try exact Dz) only[↓DN,↓kAsg,↓kRet,UP,simprocAttr,LA,hc,hi0,hv,v0,hva2,↓loop_c,ht,ht2,hwt,pM,EF,↓ih',AB,BP,Tryz.f81]
theorem aCL(hn:6<=n)(a:Aut)(ha:AOK a)(hL:2^60<=L):aA env L n 81 [.agg [nI a.al,.d (.ivs a.nx.length (aE a.nx)),.d (.ivs a.ac.length (aD a.ac))]] []=some (.agg [.d (.int .i64 (bA a).al),.d (.ivs (bA a).nx.length (aE (bA a).nx)),.d (.ivs (bA a).ac.length (aD (bA a).ac))],[]):=by
 obtain⟨sa,wa,a1,a2,a3⟩:=aR ha;obtain⟨W,hB⟩:=iQ ha;have hl:=dZ hB.nod hB.rng;have hp:=hB.pos
 have hin:∀v∈ordA a,∀x∈rowA a v,x∈ordA a:=by
  intro v hv x hx;obtain⟨v0,v1⟩:=hB.rng v hv;rw[<-CU ha v0 v1]at hx;obtain⟨l,hl,rfl⟩:=Av.1 hx;exact H6 hB hv hl
 have loop_c:=fun {R n k} hn=> @aFh R L n hn hL a ha (ordA a) om hB.rng hin a.al k (ordA a).length 0 L [] [] 0 0 om om rfl rfl rfl rfl;have kc_o:=@aLA L a ha hL;simp only[Ap,F9,NN]at loop_c;rw[if_neg om]at loop_c;have hx1:(bA a).nx.length=(ordA a).length:=Al _;have hx2:(bA a).ac.length=(ordA a).length:=Al _;have hx3:(bA a).al=a.al:=rfl;have e1:((ordA a).map fun v=>(rowA a v).map (idxU (ordA a)))=(bA a).nx:=rfl;have e2:((ordA a).map fun v=>a.ac.getD v.toNat false)=(bA a).ac:=rfl;rw[e1,e2]at loop_c;rw[hx1,hx2,hx3];have ht1:(aE (bA a).nx).take (ordA a).length=aE (bA a).nx:=lE om;have ht2:(aD (bA a).ac).take (ordA a).length=aD (bA a).ac:=iD om;have hr1:(aE (bA a).nx).length=(ordA a).length:=by rw[jY,hx1]
 have hb1:(aD (bA a).ac).length=(ordA a).length:=by rw[cZ,hx2]
 clear hB hin e1 e2;generalize(bA a).nx=w1 at *;generalize(bA a).ac=w2 at *;generalize ordA a=w at *;obtain _|n:=n;omega
 simp-implicitDefEqProofs (maxSteps:=9^7) (disch:=try exact Dz) only[↓DN,↓kAsg,↓kRet,UP,simprocAttr,↓kc_o,↓loop_c,ht1,ht2,hr1,hb1,Ab,aNV,aGp,Tryz.f81]
theorem aB8:type_of% fun {L} a ha hL=>ks fun hn=> @aCL L _ hn a ha hL:=fun {L} a ha hL=>ks fun hn=> @aCL L _ hn a ha hL
def A9(x:Aut)(j i:Nat):List Str:=(List.range' i j).map fun q=>txt (accG x (q:Nat)).1
theorem aOq{x:Aut}{j i:Nat}:A9 x (j+1) i=txt (accG x (i:Nat)).1::A9 x j (i+1):=by
 simp[A9,Ec]
theorem aNY{a:Aut}(h:AOK a):A9 (bA a) (bA a).nx.length 0=bX a:=by
 obtain⟨W,hB⟩:=iQ h;rw[zM h hB];have hx1:(bA a).nx.length=(ordA a).length:=Al _;unfold A9;rw[hx1,<-List.range_eq_range'];apply Cw;intro q hq;unfold accG;rw[if_pos (show cB (bA a).al (bA a).nx (bA a).ac=true from D3 h),aSk h hB (Ci.1 hq)]
def ZB(a:Aut):List Str:=if cB a.al a.nx a.ac=true then bX a else []
theorem IC{a:Aut}(h:AOK a):1<=(bX a).length/\(bX a).length<=12:=by
 obtain⟨W,hB⟩:=iQ h;obtain⟨sa,wa,a1,a2,a3⟩:=aR h;have hl:=dZ hB.nod hB.rng;have hp:=hB.pos;rw[zM h hB,Al,Db];omega
theorem aBM(hn:12<=n)(hL:2^60<=L){a:Aut}(ha:AOK a){k:KE R}:∀(q i m:Nat) (o:List Str) (len:Nat) (hq:i+q=a.nx.length) (hm:q<m) (hlen:len=o.length) (ho:o.length+q<=100000),
  aT env (aA env L n) L 0 [] Bz66 (zW 0) (U2 (Z4 (U16 (U8 (U2 ([])))))) m (Y2 (.d .nils::.ptr 0 0 0::.sl 1 0 0 len::nI i::Y16 (Y8 (Y2 ([]))))) [.box [nI a.al,.d (.ivs a.nx.length (aE a.nx)),.d (.ivs a.ac.length (aD a.ac))],.arr (aM o) 1 0] k
  =k (.exit 0) (Y2 (.d .nils::.ptr 0 0 0::.sl 1 0 0 (o++A9 a q i).length::nI (a.nx.length:Int)::Y16 (Y8 (Y2 ([]))))) [.box [nI a.al,.d (.ivs a.nx.length (aE a.nx)),.d (.ivs a.ac.length (aD a.ac))],.arr (aM (o++A9 a q i)) 1 0]:=by
 obtain⟨sa,wa,a1,a2,a3⟩:=aR ha;have hac:a.ac.length<=4294967296:=om;have hal:=sa.1;intro q
 induction q with
 |zero=>
  intro i m o len hq hm hlen ho;obtain _|m:=m;omega;obtain rfl:i=a.nx.length:=om;subst hlen;have e:A9 a 0 a.nx.length=[]:=rfl;rw[e,Ai]
  simp-implicitDefEqProofs (maxSteps:=9^7) (disch:=try exact Dz) only[↓DN,↓kRet,UP,simprocAttr,Ah,B7,yI,Tryz.f48]
 |succ q ih=>
  intro i m o len hq hm hlen ho;obtain _|m:=m;omega;subst hlen;have hc:(i:Int)<a.nx.length:=om;have kc_s:=@aFX L a i sa hac hL;have ih':=ih (i+1) m (o++[txt (accG a (i:Nat)).1]) (o.length+1) om om sm (by simp;omega);rw[cs1 i]at ih';simp only[Ao,Do]at ih';rw[aOq];clear ih;generalize A9 a q (i+1)=w2 at *;generalize accG a (i:Nat)=r at *;obtain⟨w,b⟩:=r;simp only at kc_s ih'|-
  simp-implicitDefEqProofs (maxSteps:=9^7) (disch:=try exact Dz) only[↓DN,↓kRet,UP,simprocAttr,SE,hc,↓kc_s,mP,↓ih',B7,yI,Tryz.f48]
theorem OX(hn:13<=n)(a:Aut)(hs:aW a.nx)(hac:a.ac.length<=4294967296)(hL:2^60<=L):aA env L n 48 [.agg [nI a.al,.d (.ivs a.nx.length (aE a.nx)),.d (.ivs a.ac.length (aD a.ac))]] []=some (.d (.ivs (ZB a).length (aM (ZB a))),[]):=by
 have hrl:=hs.1;unfold ZB
 cases hv:cB a.al a.nx a.ac with
 |false=>
  simp only[Am,if_false,Ac,lB];obtain _|n:=n;omega
  simp-implicitDefEqProofs (maxSteps:=9^7) (disch:=try exact Dz) only[↓DN,↓kAsg,↓kRet,UP,simprocAttr,↓bB,hv,OW,D2,Tryz.f48]
 |true=>
  have htr:=D3 (a:=a) hv;obtain⟨sa,wa,a1,a2,a3⟩:=aR htr;have hl:=IC (a:=a) hv;have loop_c:=fun {R n k} hn=> @aBM R L n hn hL (bA a) htr k (bA a).nx.length 0 L [] 0 om om rfl (by simp;omega);rw[Aq,aNY hv]at loop_c;have kc_t:=@aB8 L a hv hL;simp only[if_true,Ap,lB]at loop_c|-;have hsn:=sa.1;clear htr wa;generalize(bA a)=x at *;generalize bX a=w at *;have e4:(aM w).take w.length=aM w:=iL (Ab _);obtain _|n:=n;omega
  simp-implicitDefEqProofs (maxSteps:=9^7) (disch:=try exact Dz) only[↓DN,↓kAsg,↓kRet,UP,simprocAttr,↓bB,SE,hv,e4,↓kc_t,↓loop_c,OW,D2,Tryz.f48]
theorem aEx:type_of% fun {L} a hs hac hL=>ks fun hn=> @OX L _ hn a hs hac hL:=fun {L} a hs hac hL=>ks fun hn=> @OX L _ hn a hs hac hL
end
section
variable{R:Type}{L n:Nat}
def quoN(x:Aut)(cl:List Int)(nc:Nat):Aut:=⟨x.al,(List.range nc).map (fun c=>(rowA x (idxU cl (c:Nat))).map (clA cl)),(List.range nc).map (fun c=>x.ac.getD (idxU cl (c:Nat)).toNat false)⟩
def quoS(x:Aut):Aut:=quoN x (a8 x) (aO (a8 x)).length
def minS(a:Aut):Aut:=quoS (bA a)
theorem aOT{α:Type}[DecidableEq α]{l:List α}{c:Nat}(h:c<(aO (numL l)).length):(c:Int)∈numL l:=by
 rw[(DC (EX l)).2]at h;refine Av.2 ⟨(aO l)[c],bR.1 (At _),?_⟩;rw[(oB l).idxOf_getElem]
theorem aV9{x:Aut}(hx:AOK x):AOK (quoS x):=by
 obtain⟨b1,b2,b3,b4⟩:=fM hx;obtain⟨l,e,hl,_,_⟩:=DG hx;have hf:(aO (a8 x)).length=(aO l).length:=by rw[e];exact(DC (EX l)).2
 have hle:=kT l;have hcl:=E9 hx
 have hpos:0<(aO (a8 x)).length:=by
  have:(a8 x)[0]'om∈aO (a8 x):=bR.2 (At _);exact El this
 unfold quoS;rw[hf]at hpos|-;unfold AOK quoN;refine aDs b4 (by rw[Al,Db];omega) (by rw[Al,Db];omega) (by rw[Al,Al]) ?_;intro r hr;obtain⟨c,hc,rfl⟩:=Av.1 hr;rw[Ci]at hc;have hmem:(c:Int)∈a8 x:=by rw[e];exact aOT (by rw[<-e,hf];exact hc)
 have hi:=Ek hmem;obtain⟨r1,r2⟩:=gG hx (i:=(idxU (a8 x) (c:Nat)).toNat) (by unfold idxU;omega);refine⟨by rw[Al];exact r1,?_⟩;intro q hq;obtain⟨y,hy,rfl⟩:=Av.1 hq;obtain⟨j,hj,rfl⟩:=Bz hy;have hj2:j<(x.nx.getD (idxU (a8 x) (c:Nat)).toNat []).length:=hj;have hy2:=r2 j om
 have ey:(x.nx.getD (idxU (a8 x) (c:Nat)).toNat []).getD j 0=(rowA x (idxU (a8 x) (c:Nat)))[j]:=by
  unfold rowA;rw[Aa,Ad hj2];rfl
 rw[ey]at hy2;have:=aDh (l:=l) (i:=((rowA x (idxU (a8 x) (c:Nat)))[j]).toNat) om;rw[<-e]at this;rw[Al,Db];exact this
theorem aOy{a:Aut}(h:AOK a):AOK (minS a):=aV9 (D3 h)
theorem XS(hn:1<=n)(hL:2^60<=L){x:Aut}{cl:List Int}{c nc v:Int}(v0:0<=v)(v1:v<x.nx.length)(hr:(rowA x v).length<=100)(hcl:cl.length<=100)(hal:x.nx.length<=100)(hin:∀q,q<(rowA x v).length->0<=(rowA x v).getD q 0/\(rowA x v).getD q 0<cl.length){al2:Int}{d e:Nat}{cn cs2:List D}{k:KE R}:∀(j q m:Nat) (r:List Int) (len:Nat) (hq:q+j=(rowA x v).length) (hm:j<m) (hlen:len=r.length) (hr2:r.length+j<=1000),
  aT env (aA env L n) L 0 [] Bz33 (pA 1) (U2 (Z8 (Z1 (U32 (U16 (U8 (U4 ([])))))))) m (Y2 (.ptr 0 0 0::.ptr 1 0 0::.d (.ivs cl.length (ints cl))::nI nc::.ptr 2 0 0::nI c::nI v::.sl 3 0 0 len::nI q::Y32 (Y16 (Y8 (Y4 ([])))))) [.box [nI 0,.sl 4 0 0 0,.sl 5 0 0 0],.box [nI x.al,.d (.ivs x.nx.length (aE x.nx)),.d (.ivs x.ac.length (aD x.ac))],.box [nI al2,.sl 6 0 0 d,.sl 7 0 0 d],.arr (ints (r)) 1 0,.arr [] 0 0,.arr [] 0 0,.arr cn e 0,.arr cs2 e 0] k
  =k (.exit 2) (Y2 (.ptr 0 0 0::.ptr 1 0 0::.d (.ivs cl.length (ints cl))::nI nc::.ptr 2 0 0::nI c::nI v::.sl 3 0 0 (r++((rowA x v).drop q).map (clA cl)).length::nI ((rowA x v).length)::Y32 (Y16 (Y8 (Y4 ([])))))) [.box [nI 0,.sl 4 0 0 0,.sl 5 0 0 0],.box [nI x.al,.d (.ivs x.nx.length (aE x.nx)),.d (.ivs x.ac.length (aD x.ac))],.box [nI al2,.sl 6 0 0 d,.sl 7 0 0 d],.arr (ints (r++((rowA x v).drop q).map (clA cl))) 1 0,.arr [] 0 0,.arr [] 0 0,.arr cn e 0,.arr cs2 e 0]:=by
 have hvk:v.toNat<x.nx.length:=om;intro j
 induction j with
 |zero=>
  intro q m r len hq hm hlen hr2;obtain _|m:=m;omega;obtain rfl:q=(rowA x v).length:=om;subst hlen;rw[Bt];unfold rowA at *
  simp-implicitDefEqProofs (maxSteps:=9^7) (disch:=try exact Dz) only[↓DN,↓kRet,UP,simprocAttr,LA,v0,v1,hvk,Ah,FU,zX,Tryz.f66]
 |succ j ih=>
  intro q m r len hq hm hlen hr2;obtain _|m:=m;omega;subst hlen;have hk:q<(rowA x v).length:=om;obtain⟨x0,x1⟩:=hin q hk;have ih':=ih (q+1) m (r++[clA cl ((rowA x v).getD q 0)]) (r.length+1) om om sm (by simp;omega);rw[cs1 q]at ih';simp only[Ao,Do]at ih';rw[aCQ hk];have hc:(q:Int)<(rowA x v).length:=om;have hq0:(0:Int)<=q:=om;have hr100:r.length<=1000:=om;clear ih hin;generalize((rowA x v).drop (q+1)).map (clA cl)=w at *;unfold rowA clA at *
  simp-implicitDefEqProofs (maxSteps:=9^7) (disch:=try exact Dz) only[↓DN,↓kRet,UP,simprocAttr,LA,v0,v1,hvk,hk,hc,hq0,x0,x1,↓ih',FU,zX,Tryz.f66]
theorem XT(hn:3<=n)(hL:2^60<=L){x:Aut}(hx:AOK x){cl:List Int}(hcl:cl.length=x.nx.length){nc:Nat}(hnc:nc<=12)(hit:∀c:Nat,c<nc->(c:Int)∈cl){al2:Int}{k:KE R}:∀(j i m:Nat) (d:List (List Int)) (b:List Bool) (len e:Nat) (hi:i+j=nc) (hm:j<m) (hd:d=(List.range i).map (fun c=>(rowA x (idxU cl (c:Nat))).map (clA cl))) (hb:b=(List.range i).map (fun c=>x.ac.getD (idxU cl (c:Nat)).toNat false)) (hlen:i=len) (he:e=if i=0 then 0 else 1),
  aT env (aA env L n) L 0 [] Bz33 (pA 0) (U2 (Z4 (Z2 (U32 (U16 (U8 (U4 (U2 (U1 ([])))))))))) m (Y2 (.ptr 0 0 0::.ptr 1 0 0::.d (.ivs cl.length (ints cl))::nI nc::.ptr 2 0 0::nI i::Y32 (Y16 (Y8 (Y4 (Y2 (Y1 ([])))))))) [.box [nI 0,.sl 3 0 0 0,.sl 4 0 0 0],.box [nI x.al,.d (.ivs x.nx.length (aE x.nx)),.d (.ivs x.ac.length (aD x.ac))],.box [nI al2,.sl 5 0 0 len,.sl 6 0 0 len],.arr [] 0 0,.arr [] 0 0,.arr (aE d) e 0,.arr (aD b) e 0] k
  =k (.exit 0) (Y2 (.ptr 0 0 0::.ptr 1 0 0::.d (.ivs cl.length (ints cl))::nI nc::.ptr 2 0 0::nI nc::Y32 (Y16 (Y8 (Y4 (Y2 (Y1 ([])))))))) [.box [nI 0,.sl 3 0 0 0,.sl 4 0 0 0],.box [nI x.al,.d (.ivs x.nx.length (aE x.nx)),.d (.ivs x.ac.length (aD x.ac))],.box [nI al2,.sl 5 0 0 nc,.sl 6 0 0 nc],.arr [] 0 0,.arr [] 0 0,.arr (aE ((List.range nc).map (fun c=>(rowA x (idxU cl (c:Nat))).map (clA cl)))) (if nc=0 then 0 else 1) 0,.arr (aD ((List.range nc).map (fun c=>x.ac.getD (idxU cl (c:Nat)).toNat false))) (if nc=0 then 0 else 1) 0]:=by
 obtain⟨sa,wa,a1,a2,a3⟩:=aR hx;have hal:=sa.1;intro j
 induction j with
 |zero=>
  intro i m d b len e hi hm hd hb hlen he;obtain _|m:=m;omega;obtain rfl:i=nc:=om;subst hd;subst hb;subst hlen;subst he
  simp-implicitDefEqProofs (maxSteps:=9^7) (disch:=try exact Dz) only[↓DN,↓kRet,UP,simprocAttr,Ah,uE,s5,Tryz.f66]
 |succ j ih=>
  intro i m d b len e hi hm hd hb hlen he;obtain _|m:=m;omega;subst hlen;have hic:i<nc:=om;have hmem:=hit i hic;have v0:0<=idxU cl (i:Nat):=by unfold idxU;omega
  have v1:idxU cl (i:Nat)<x.nx.length:=by unfold idxU;have:=Ek hmem;omega
  obtain⟨hrl,hrr⟩:=gG hx (i:=(idxU cl (i:Nat)).toNat) om;have hll:=bO x.al;have hdl:d.length=i:=by rw[hd,Al,Db]
  have hbl:b.length=i:=by rw[hb,Al,Db]
  have ih':=ih (i+1) m (d++[(rowA x (idxU cl (i:Nat))).map (clA cl)]) (b++[x.ac.getD (idxU cl (i:Nat)).toNat false]) (i+1) 1 om om (by rw[List.range_succ,Cm,hd];rfl) (by rw[List.range_succ,Cm,hb];rfl) rfl (by rw[if_neg om]);rw[cs1 i]at ih';have loop_c:=fun {R:Type} {n:Nat} {d e:Nat} {cn cs2:List D} {k:KE R} (hn:1<=n)=> @XS R L n hn hL x cl (i:Int) (nc:Int) (idxU cl (i:Nat)) v0 v1 (by unfold rowA;omega) om om (fun q hq=>by rw[hcl];exact hrr q (by unfold rowA at hq;omega)) al2 d e cn cs2 k (rowA x (idxU cl (i:Nat))).length 0 L [] 0 om (by unfold rowA;omega) rfl (by unfold rowA;rw[Ac];omega);rw[Ba]at loop_c;simp only[Ap,Aq,kH]at loop_c;have kc_x:=@ZN L cl (i:Int) hmem om hL;have hc:(i:Int)<nc:=om;have hrl2:((rowA x (idxU cl (i:Nat))).map (clA cl)).length<=6:=by rw[Al];unfold rowA;omega
  clear ih hrr hmem hd hb;generalize(rowA x (idxU cl (i:Nat))).map (clA cl)=w at *;generalize rowA x (idxU cl (i:Nat))=w0 at *;generalize idxU cl (i:Nat)=v at *;have hva:v.toNat<x.ac.length:=om;have hva2:v<x.ac.length:=om;have ht:(aE d).take i=aE d:=lE om;have ht2:(aD b).take i=aD b:=iD om;have hwt:(ints w).take w.length=ints w:=by rw[cK (Ab _)]
  have hi12:i<=12:=om
  by_cases hz:i=0
  ·obtain rfl:e=0:=by rw[he,if_pos hz]
   clear he hz
   simp-implicitDefEqProofs (maxSteps:=9^7) (disch:=try exact Dz) only[↓DN,↓kAsg,↓kRet,UP,simprocAttr,LA,hc,v0,hva2,hva,↓kc_x,↓loop_c,ht,ht2,hwt,pM,EF,↓ih',uE,s5,Tryz.f66]
  ·obtain rfl:e=1:=by rw[he,if_neg hz]
   clear he hz
   simp-implicitDefEqProofs (maxSteps:=9^7) (disch:=try exact Dz) only[↓DN,↓kAsg,↓kRet,UP,simprocAttr,LA,hc,v0,hva2,hva,↓kc_x,↓loop_c,ht,ht2,hwt,pM,EF,↓ih',uE,s5,Tryz.f66]
theorem RE(hn:10<=n)(a:Aut)(ha:AOK a)(hL:2^60<=L):aA env L n 66 [.agg [nI a.al,.d (.ivs a.nx.length (aE a.nx)),.d (.ivs a.ac.length (aD a.ac))]] []=some (.agg [.d (.int .i64 (minS a).al),.d (.ivs (minS a).nx.length (aE (minS a).nx)),.d (.ivs (minS a).ac.length (aD (minS a).ac))],[]):=by
 have hx:=D3 ha;obtain⟨sa,wa,a1,a2,a3⟩:=aR hx;have hcl:=E9 hx;have hnc:(aO (a8 (bA a))).length<=12:=by have:=kT (a8 (bA a));omega
 have hit:∀c:Nat,c<(aO (a8 (bA a))).length->(c:Int)∈a8 (bA a):=by
  obtain⟨l,e,_⟩:=DG hx;rw[e];exact fun c h=>aOT h
 have loop_c:=fun {R n k} hn=> @XT R L n hn hL (bA a) hx (a8 (bA a)) hcl (aO (a8 (bA a))).length hnc hit a.al k (aO (a8 (bA a))).length 0 L [] [] 0 0 om om rfl rfl rfl rfl;have kc_t:=@aB8 L a ha hL;have kc_c:=@aG8 L (bA a) hx hL;simp only[Ap,F9,NN]at loop_c;have hx1:(minS a).nx.length=(aO (a8 (bA a))).length:=by unfold minS quoS quoN;rw[Al,Db]
 have hx2:(minS a).ac.length=(aO (a8 (bA a))).length:=by unfold minS quoS quoN;rw[Al,Db]
 have hx3:(minS a).al=a.al:=rfl;have e1:((List.range (aO (a8 (bA a))).length).map fun c=>(rowA (bA a) (idxU (a8 (bA a)) (c:Nat))).map (clA (a8 (bA a))))=(minS a).nx:=rfl;have e2:((List.range (aO (a8 (bA a))).length).map fun c=>(bA a).ac.getD (idxU (a8 (bA a)) (c:Nat)).toNat false)=(minS a).ac:=rfl;rw[e1,e2]at loop_c;have hy1:(aE (minS a).nx).length=(aO (a8 (bA a))).length:=by rw[jY,hx1]
 have hy2:(aD (minS a).ac).length=(aO (a8 (bA a))).length:=by rw[cZ,hx2]
 have ht1:(aE (minS a).nx).take (aO (a8 (bA a))).length=aE (minS a).nx:=lE om;have ht2:(aD (minS a).ac).take (aO (a8 (bA a))).length=aD (minS a).ac:=iD om;rw[hx1,hx2,hx3]
 have hpos:0<(aO (a8 (bA a))).length:=by
  have:(a8 (bA a))[0]'om∈aO (a8 (bA a)):=bR.2 (At _);exact El this
 rw[if_neg om]at loop_c;clear e1 e2 hit;generalize(minS a).nx=w1 at *;generalize(minS a).ac=w2 at *;generalize(aO (a8 (bA a))).length=z at *;generalize a8 (bA a)=w at *;generalize bA a=x at *;obtain _|n:=n;omega
 simp-implicitDefEqProofs (maxSteps:=9^7) (disch:=try exact Dz) only[↓DN,↓kAsg,↓kRet,UP,simprocAttr,↓kc_t,↓kc_c,↓loop_c,ht1,ht2,hy1,hy2,Ab,aHc,VI,Tryz.f66]
theorem aHz:type_of% fun {L} a ha hL=>ks fun hn=> @RE L _ hn a ha hL:=fun {L} a ha hL=>ks fun hn=> @RE L _ hn a ha hL
theorem xB(hn:12<=n)(a:Aut)(ha:AOK a)(hL:2^60<=L):aA env L n 32 [.agg [nI a.al,.d (.ivs a.nx.length (aE a.nx)),.d (.ivs a.ac.length (aD a.ac))]] []=some (.tup [.agg [.d (.int .i64 (minS a).al),.d (.ivs (minS a).nx.length (aE (minS a).nx)),.d (.ivs (minS a).ac.length (aD (minS a).ac))],.d (.bool true)],[]):=by
 obtain⟨sa,wa,a1,a2,a3⟩:=aR ha;have hrl:=sa.1;have hac:a.ac.length<=4294967296:=om;have kc_t:=@aHz L a ha hL;unfold AOK at ha;generalize minS a=x at *;obtain _|n:=n;omega
 simp-implicitDefEqProofs (maxSteps:=9^7) (disch:=try exact Dz) only[↓DN,↓kAsg,↓kRet,UP,simprocAttr,↓bB,ha,↓kc_t,xF,oX,Tryz.f32]
theorem QE:type_of% fun {L} a ha hL=>ks fun hn=> @xB L _ hn a ha hL:=fun {L} a ha hL=>ks fun hn=> @xB L _ hn a ha hL
theorem MQ(hn:12<=n)(a:Aut)(hs:aW a.nx)(hac:a.ac.length<=4294967296)(ha:cB a.al a.nx a.ac=false)(hL:2^60<=L):aA env L n 32 [.agg [nI a.al,.d (.ivs a.nx.length (aE a.nx)),.d (.ivs a.ac.length (aD a.ac))]] []=some (.tup [.agg [nI 0,.d (.ivs 0 []),.d (.ivs 0 [])],.d (.bool false)],[]):=by
 obtain _|n:=n;omega
 simp-implicitDefEqProofs (maxSteps:=9^7) (disch:=try exact Dz) only[↓DN,↓kAsg,↓kRet,UP,simprocAttr,↓bB,ha,xF,oX,Tryz.f32]
end
theorem aUK{R:Type}{L n:Nat}{hq:H}{al:Int}{ac:List Bool}{k:KA R}(hn:2<=n)(ha:ac.length<=4294967295)(hL:2^60<=L):aX env (aA env L n) hq 60 [.agg [nI al,.d (.ivs 0 []),.d (.ivs ac.length (aD ac))]] k=k (.agg [nI al,.sl hq.length 0 0 0,.sl (hq.length+1) 0 0 ac.length]) (hq++[.arr [] 0 0,.arr (aD ac) 1 0]):=by
 have he:aA env L n 60 [.agg [nI al,.d (.ivs 0 []),.d (.ivs ac.length (aD ac))]] []=some (.agg [nI al,.sl 0 0 0 0,.sl 1 0 0 ac.length],[.arr [] 0 0,.arr (aD ac) 1 0]):=OB hn al ac ha hL
 have hcall:bY (aA env L n) env.hint [] 60 [.agg [nI al,.d (.ivs 0 []),.d (.ivs ac.length (aD ac))]]=some (.agg [nI al,.sl 0 0 0 0,.sl 1 0 0 ac.length],[.arr [] 0 0,.arr (aD ac) 1 0]):=by
  have hf:d8 [] [.agg [nI al,.d (.ivs 0 []),.d (.ivs ac.length (aD ac))]]=some ([.agg [nI al,.d (.ivs 0 []),.d (.ivs ac.length (aD ac))]],[]):=rfl;unfold bY;rw[qY];simp only[hf,he]<;>rfl
 have hids:idsL [A.agg [nI al,.d (.ivs 0 []),.d (.ivs ac.length (aD ac))]]=[]:=rfl;unfold aX;rw[hids,AH,fX _ hids];have hp:pack hq []=[]:=rfl;rw[hp,hcall];simp only[Ac,Nat.zero_le,true_and,closed,Cd,Bp,if_true,bJ];simp[mapA,aG,back,mapO,aD]
theorem aPG{c:List UInt8}(al:Int)(ac:List Bool)(ha:ac.length<=4294966000)(p:Int):(Dw 4 29 [autD al [] ac] (autD al [] ac) c p p):=by
 have e0:aE []=[]:=rfl;intro R L n hq k hn hL;refine b7 BA (by simp[autD,idsA,idsL]) (by simp[autD,idsA,idsL]) ?_;simp only[autD,e0,Ac];obtain _|n:=n;omega
 simp-implicitDefEqProofs (maxSteps:=9^7) (disch:=try exact Dz) only[↓DN,↓kRet,UP,simprocAttr,LA,↓aUK,eV,eP,Tryz.f29]
theorem S1{c:List UInt8}(hc:c.length<=2000){B:Nat}(hB:B<=4294966000)(al:Int)(nx:List (List Int))(ac:List Bool)(hb:AutB B nx ac)(p:Int)(hp:0<=p)(hp2:p<=890000000):
  ∃(nx2:List (List Int)) (ac2:List Bool) (q:Int),AutB (B+1) nx2 ac2/\p<=q/\q<=p+4/\(Dw 4 29 [autD al nx ac] (autD al nx2 ac2) c p q):=by
 by_cases h1:1<=nx.length
 ·obtain⟨nx2,ac2,q,a,_,b,d,e⟩:=aCn hc hB al nx ac hb h1 p hp hp2;exact⟨nx2,ac2,q,a,b,d,e⟩
 ·obtain rfl:nx=[]:=Bw.1 om;have ha:=hb.a;exact⟨[],ac,p,hb.mono om,by omega,by omega,aPG al ac om p⟩
theorem aWS{a:Aut}(h:AOK a):AutB 12 (minS a).nx (minS a).ac:=by
 obtain⟨sa,wa,a1,a2,a3⟩:=aR (aOy h);refine⟨a2,by omega,fun r hr=> ?_⟩;obtain⟨i,hi,rfl⟩:=Bz hr;have:=(gG (aOy h) hi).1;rw[Aa,Ad hi]at this;have h6:=bO (minS a).al;show(minS a).nx[i].length<=12;simp only[Bg]at this;omega
theorem XH(c0:List UInt8)(hc0:c0.length<=4294967296):∃(a b:Aut) (x:Int),AutB 50 a.nx a.ac/\AutB 50 b.nx b.ac/\ -1<=x/\x<=3/\∀(R:Type) (L n:Nat) (hq:H) (k:KA R),20<=n->2^60<=L->aX env (aA env L n) hq 12 [.d (.ivs c0.length (bM c0))] k=k (.tup [autD a.al a.nx a.ac,autD b.al b.nx b.ac,nI x]) hq:=by
 have hc:=aWu c0;generalize hcs:src c0=c at hc;obtain⟨al,nx,ac,q,b0,g2,g3,kd1⟩:=aQD hc 0 om om;obtain⟨nx1,ac1,q1,b1,r1,s1,kd2⟩:=S1 hc (B:=45) om al nx ac b0 q om om;obtain⟨nx2,ac2,q2,b2,r2,s2,kd3⟩:=S1 hc (B:=46) om al nx1 ac1 b1 q1 om om;obtain⟨w,w0,w1,_,kd4⟩:=eC hc q2 6 om om;have hs:=b0.short om;have haa:=b0.a;have kd_a:=fun {R:Type} {hq:H} {k:KA R} {i:Nat} {L n:Nat}=> @xM L n _ _ _ _ _ _ _ rfl rfl kd1 R hq k i;have kd_b:=fun {R:Type} {hq:H} {k:KA R} {i:Nat} {L n:Nat}=> @xM L n _ _ _ _ _ _ _ rfl rfl kd2 R hq k i;have kd_c:=fun {R:Type} {hq:H} {k:KA R} {i:Nat} {L n:Nat}=> @xM L n _ _ _ _ _ _ _ rfl rfl kd3 R hq k i;have kd_d:=fun {R:Type} {hq:H} {k:KA R} {i:Nat} {L n:Nat}=> @xM L n _ _ _ _ _ _ _ rfl rfl kd4 R hq k i;clear kd1 kd2 kd3 kd4
 by_cases h0:w=0
 ·subst h0;obtain⟨al3,nx3,ac3,q3,e1,e2,e3,e4,e5,e6,kd5⟩:=aI8 hc (q2+1) om om;obtain⟨x,x0,x1,kd6⟩:=D9 hc q3 om om;refine⟨⟨al,nx,ac⟩,⟨al3,nx3,ac3⟩,x,b0.mono om,⟨by show nx3.length<=50;omega,by show ac3.length<=50;omega,fun r hr=>by have:=e4 r hr;have:=bO al3;omega⟩,x0,x1,fun R L n hq k hn hL=>bV rfl ?_ rfl (.inr rfl)⟩;have kd_e:=fun {R:Type} {hq:H} {k:KA R} {i:Nat} {L n:Nat}=> @xM L n _ _ _ _ _ _ _ rfl rfl kd5 R hq k i;have kd_f:=fun {R:Type} {hq:H} {k:KA R} {i:Nat} {L n:Nat}=> @xM L n _ _ _ _ _ _ _ rfl rfl kd6 R hq k i;clear kd5 kd6 b0 b1 b2 e4;unfold autD at kd_a kd_b kd_c kd_e|-;obtain _|n:=n;omega
  simp-implicitDefEqProofs (maxSteps:=9^7) (disch:=try exact Dz) only[↓DN,↓kAsg,↓kRet,UP,simprocAttr,↓J6,hcs,↓kd_a,↓kd_b,↓kd_c,↓kd_d,↓kd_e,↓kd_f,Bj,gH,eX,Tryz.f12]
 by_cases h1:w=1
 ·subst h1;obtain⟨x,x0,x1,kd6⟩:=D9 hc (q2+1) om om;have kd_f:=fun {R:Type} {hq:H} {k:KA R} {i:Nat} {L n:Nat}=> @xM L n _ _ _ _ _ _ _ rfl rfl kd6 R hq k i
  cases hv:cB al nx ac with
  |true=>
   refine⟨⟨al,nx,ac⟩,minS ⟨al,nx,ac⟩,x,b0.mono om,(aWS (a:=⟨al,nx,ac⟩) hv).mono om,x0,x1,fun R L n hq k hn hL=>bV rfl ?_ rfl (.inr rfl)⟩;have kc_m:=@QE L ⟨al,nx,ac⟩ hv hL;clear kd6 b0 b1 b2;unfold autD at kd_a kd_b kd_c|-;generalize minS ⟨al,nx,ac⟩=z at *;obtain _|n:=n;omega
   simp-implicitDefEqProofs (maxSteps:=9^7) (disch:=try exact Dz) only[↓DN,↓kAsg,↓kRet,UP,simprocAttr,↓J6,hcs,↓kd_a,↓kd_b,↓kd_c,↓kd_d,↓kd_f,↓kc_m,Bj,gH,eX,Tryz.f12]
  |false=>
   refine⟨⟨al,nx,ac⟩,⟨al,nx2,ac2⟩,x,b0.mono om,b2.mono om,x0,x1,fun R L n hq k hn hL=>bV rfl ?_ rfl (.inr rfl)⟩;have kc_m:=fun {R:Type} {n:Nat} {hq:H} {k:KA R} (hn:12<=n)=>bV (E:=env) (h:=hq) (k:=k) rfl (MQ (L:=L) hn ⟨al,nx,ac⟩ hs (by show ac.length<=_;omega) hv hL) rfl (.inr rfl);clear kd6 b0 b1 b2;unfold autD at kd_a kd_b kd_c|-;obtain _|n:=n;omega
   simp-implicitDefEqProofs (maxSteps:=9^7) (disch:=try exact Dz) only[↓DN,↓kAsg,↓kRet,UP,simprocAttr,↓J6,hcs,↓kd_a,↓kd_b,↓kd_c,↓kd_d,↓kd_f,↓kc_m,Bj,gH,eX,Tryz.f12]
 by_cases h2:w=2
 ·subst h2;obtain⟨nx3,ac3,q3,b3,r3,s3,kd5⟩:=S1 hc (B:=45) om al nx ac b0 (q2+1) om om;obtain⟨x,x0,x1,kd6⟩:=D9 hc q3 om om;refine⟨⟨al,nx,ac⟩,⟨al,nx3,ac3⟩,x,b0.mono om,b3.mono om,x0,x1,fun R L n hq k hn hL=>bV rfl ?_ rfl (.inr rfl)⟩;have kd_e:=fun {R:Type} {hq:H} {k:KA R} {i:Nat} {L n:Nat}=> @xM L n _ _ _ _ _ _ _ rfl rfl kd5 R hq k i;have kd_f:=fun {R:Type} {hq:H} {k:KA R} {i:Nat} {L n:Nat}=> @xM L n _ _ _ _ _ _ _ rfl rfl kd6 R hq k i;clear kd5 kd6 b0 b1 b2 b3;unfold autD at kd_a kd_b kd_c kd_e|-;obtain _|n:=n;omega
  simp-implicitDefEqProofs (maxSteps:=9^7) (disch:=try exact Dz) only[↓DN,↓kAsg,↓kRet,UP,simprocAttr,↓J6,hcs,↓kd_a,↓kd_b,↓kd_c,↓kd_d,↓kd_e,↓kd_f,Bj,gH,eX,Tryz.f12]
 ·obtain⟨x,x0,x1,kd6⟩:=D9 hc (q2+1) om om;refine⟨⟨al,nx,ac⟩,⟨al,nx2,ac2⟩,x,b0.mono om,b2.mono om,x0,x1,fun R L n hq k hn hL=>bV rfl ?_ rfl (.inr rfl)⟩;have kd_f:=fun {R:Type} {hq:H} {k:KA R} {i:Nat} {L n:Nat}=> @xM L n _ _ _ _ _ _ _ rfl rfl kd6 R hq k i;clear kd6 b0 b1 b2;unfold autD at kd_a kd_b kd_c|-;obtain _|n:=n;omega
  simp-implicitDefEqProofs (maxSteps:=9^7) (disch:=try exact Dz) only[↓DN,↓kAsg,↓kRet,UP,simprocAttr,↓J6,hcs,↓kd_a,↓kd_b,↓kd_c,↓kd_d,↓kd_f,h0,h1,h2,Bj,gH,eX,Tryz.f12]
theorem XO(c0:List UInt8)(hc0:c0.length<=4294967296):∃(a b:Aut) (x:Int),AutB 50 a.nx a.ac/\AutB 50 b.nx b.ac/\ -1<=x/\x<=3/\∀(R:Type) (L n:Nat) (hq:H) (k:KA R),21<=n->2^60<=L->aX env (aA env L n) hq 5 [.d (.ivs c0.length (bM c0))] k=k (.tup [autD a.al a.nx a.ac,autD b.al b.nx b.ac,nI x]) hq:=by
 obtain⟨a,b,x,b1,b2,x0,x1,kd⟩:=XH c0 hc0;refine⟨a,b,x,b1,b2,x0,x1,fun R L n hq k hn hL=>bV rfl ?_ rfl (.inr rfl)⟩;unfold autD at kd|-;obtain _|n:=n;omega
 simp-implicitDefEqProofs (maxSteps:=9^7) (disch:=try exact Dz) only[↓DN,↓kAsg,↓kRet,UP,simprocAttr,↓kd,UK,CL,Tryz.f5]
end Ev
end Go.Proofs.YtppffbehejpglaaGreatDoor
