/-
  The first word that leads to a state: the reference's way.
-/
import Derived.Test.YtppffbehejpglaaGreatDoorTrimL
import Derived.Test.YtppffbehejpglaaGreatDoorClassS
import Derived.Test.YtppffbehejpglaaGreatDoorLeast
set_option linter.unusedSimpArgs false
set_option linter.unusedVariables false
set_option linter.unusedSectionVars false
set_option maxRecDepth 8000
set_option maxHeartbeats 4000000
namespace Go.Proofs.YtppffbehejpglaaGreatDoor
namespace Ev
def netO(a:Aut)(st:Int):Net:=⟨[],[a],[0],a.al,5,st⟩
theorem aPG{na v:Int}(h0:0<=v)(h1:v<na):decN [na] v=[v]:=by
 show [v.tmod na]=[v]
 rw[Ew h0,Int.emod_eq_of_lt h0 h1]
theorem aSw{a:Aut}(ha:AOK a)(st:Int):aBs (nxS a) (glS st) (aB a.al) a.nx.length 0=oneG a st:=by
 obtain⟨_,_,h1,_,_⟩:=aR ha;refine tO (aNk (fun v c h0 h1 hc=> ?_) (lE _) om om) (I6 ha st);have:=b9 c hc;exact SS ha h0 h1 om
theorem aKW{L n:Nat}(hn:11<=n)(hL:2^60<=L){a:Aut}(ha:AOK a)(st:Int):
  aA env L n 118 [.agg [.d .nils,.d (.ivs 1 (gN [a])),.d (.ivs 1 (ints [0])),nI a.al,nI 5,nI st]] []=some (.tup [.d (.str (txt (oneG a st).1)),.d (.bool (oneG a st).2)],[]):=by
 obtain⟨sa,aw,a1,a2,a3⟩:=aR ha;have hz:QP (netO a st)=[(a.nx.length:Int)]:=rfl;rw[<-aSw ha st]
 have key:=@YC L n hn hL 1 (gN [a]) 5 st a.al 0 [0] [(a.nx.length:Int)] (nxS a) (glS st) a.nx.length smp rfl (by
   intro q hq
   match q,hq with
   |0,_=>exact⟨by simp,by simp⟩
   |1,_=>simp;omega
   |q+2,hq=>simp at hq) smp (by intro z hz;simp at hz;subst hz;omega) (by
   simp only[S0,and_true];refine⟨by omega,by omega,?_⟩
   simp) (by simp[encN]) om om
   (fun {n} hn=>by
    have:=@ZN L n hn (netO a st) (by simp[netO]) (by simp[netO]) (fun x hx=>by simp[netO]at hx;subst hx;omega) hL;exact this)
   (fun v l hv hl {R n hq k} hn=>by
    have hl2:=b9 l hl;rw[aPG om om];have ga:=pA ha (q:=(v:Int)) om om hl2.1 om
    have hnx:nexG (fun i=>[goI a.al a.nx (v:Int) l]) [(a.nx.length:Int)] 1 0 [0]=nxS a v l:=by
     simp[nexG,mulN,nxS]
    rw[<-hnx];refine bS rfl (@aA7 L n hn hL 0 1 1 [] (gN [a]) (ints [0]) a.al 5 st [(a.nx.length:Int)] [(v:Int)] l (fun i=>[goI a.al a.nx (v:Int) l]) (fun i=>if i=0 then 0 else 11) rfl smp (fun t ht {R n hq k} hn=> ?_) (fun t ht=> ?_) (fun t ht=> ?_) (fun t ht c hc=> ?_) smp (fun t ht=> ?_)) rfl (.inr rfl)
    ·match t,ht with
     |0,_=>exact bS rfl (CP hn (netO a st) 0 _ l (Ab _) (by simp[netO]) (by simp[netO]) (by simp[netO]) a rfl sa aw (by show(0:Int)<=(v:Int);omega) (by show(v:Int)<_;omega) hl2.1 om hL) rfl (.inr rfl)
     |t+1,ht=>exact absurd ht (by show ¬(t+1<1);omega)
    ·match t,ht with
     |0,_=>simp;omega
     |t+1,ht=>exact absurd ht (by show ¬(t+1<1);omega)
    ·simp
    ·match t,ht with
     |0,_=>simp at hc;subst hc;simpa using ga
     |t+1,ht=>exact absurd ht (by show ¬(t+1<1);omega)
    ·match t,ht with
     |0,_=>simp;omega
     |t+1,ht=>exact absurd ht (by show ¬(t+1<1);omega))
   (fun v hv {R n k} hn=>by
    rw[aPG om om];have hg:QO (netO a st) [(v:Int)] ((movT (nxS a) (aB a.al) a.nx.length).getD v [])=glS st v:=rfl;rw[<-hg];exact lT (aKl om (netO a st) [(v:Int)] ((movT (nxS a) (aB a.al) a.nx.length).getD v []) rfl (by simp[netO]) (by simp[netO]) smp) rfl)
   (fun v c h0 h1 hc=>by
    have:=b9 c hc;exact⟨by simp[nxS],SS ha h0 h1 om⟩)
 exact key
theorem OH{L n:Nat}(hn:12<=n)(a:Aut)(st:Int)(hs:aW a.nx)(hac:a.ac.length<=4294967296)(hL:2^60<=L):aA env L n 82 [.agg [nI a.al,.d (.ivs a.nx.length (aE a.nx)),.d (.ivs a.ac.length (aD a.ac))],nI st] []=some (.tup [.d (.str (txt (accG a st).1)),.d (.bool (accG a st).2)],[]):=by
 have hrl:=hs.1;unfold accG
 cases hv:cA a.al a.nx a.ac with
 |false=>
  simp only[Al,if_false,txt,As];obtain _|n:=n;omega
  simp-implicitDefEqProofs (maxSteps:=9^7) (disch:=try exact Dz) only[↓DN,↓kAsg,↓kRet,UP,simprocAttr,↓bB,hv,zW,uM,Tryz.f82]
 |true=>
  simp only[if_true]
  by_cases h1:0<=st/\st<a.nx.length
  ·obtain⟨h1,h2⟩:=h1;have kc_b:=fun {R:Type} {n:Nat} {k:A->Option R} (hn:11<=n)=>lT (call:=aA env L n) (k:=k) (f:=118) (@aKW L n hn hL a hv st) rfl;simp only[gN,ints,Aj,As]at kc_b;have kl_b:=fun {R:Type} {n:Nat} {k:A->Option R} (hn:11<=n)=>kc_b (R:=R) (n:=n) (k:=k) hn;have kv_l:=fun {R:Type} {n:Nat} {hq:H} {args:List A} {k:KA R}=>d7 (E:=env) (call:=aA env L n) (h:=hq) (k:=k) (args:=args) u7;clear kc_b;generalize oneG a st=r at *;obtain _|n:=n;omega
   simp-implicitDefEqProofs (maxSteps:=9^7) (disch:=try exact Dz) only[↓DN,↓kAsg,↓kRet,UP,simprocAttr,↓bB,↓uG,hv,h1,h2,↓kv_l,↓kl_b,zW,uM,Tryz.f82]
  ·rw[aWn hv h1]
   have e3:(decide (0<=st)&&decide (st<a.nx.length))=false:=by
    rw[Bool.and_eq_false_iff,decide_eq_false_iff_not,decide_eq_false_iff_not];omega
   simp only[txt,As];obtain _|n:=n;omega
   simp-implicitDefEqProofs (maxSteps:=9^7) (disch:=try exact Dz) only[↓DN,↓kAsg,↓kRet,UP,simprocAttr,↓bB,↓uG,hv,e3,zW,uM,Tryz.f82]
theorem aGh:type_of% fun {L} a st hs hac hL=>ks fun hn=> @OH L _ hn a st hs hac hL:=fun {L} a st hs hac hL=>ks fun hn=> @OH L _ hn a st hs hac hL
section
variable{R:Type}{L n:Nat}
theorem aB9{f:Int->Int}{r:List Int}{k:Nat}(h:k<r.length):(r.drop k).map f=f (r.getD k 0)::(r.drop (k+1)).map f:=by
 rw[cC h (d:=0)];rfl
theorem EI{b:List Bool}{x:Bool}:aD b++[.bool x]=aD (b++[x]):=by simp[aD]
theorem aGZ(hn:3<=n)(hL:2^60<=L){a:Aut}{o:List Int}{i:Nat}{v:Int}(hio:i<o.length)(hoi:o.getD i 0=v)(v0:0<=v)(v1:v<a.nx.length)(hr:(rowA a v).length<=100)(ho:o.length<=100)(hal:a.nx.length<=100)(hin:∀x∈rowA a v,x∈o){al2:Int}{d e:Nat}{cn cs2:List D}{k:KE R}:∀(j q m:Nat) (r:List Int) (len:Nat) (hq:q+j=(rowA a v).length) (hm:j<m) (hlen:len=r.length) (hr2:r.length+j<=1000),
  aT env (aA env L n) L 0 [] Bz23 (xE 1) (U1 (Z4 (Z2 (Z1 (U32 (U16 (U8 (U4 (U1 ([])))))))))) m (Y1 (.ptr 0 0 0::.ptr 1 0 0::.d (.ivs o.length (ints o))::.ptr 2 0 0::nI i::.sl 3 0 0 len::nI q::Y32 (Y16 (Y8 (Y4 (Y1 ([]))))))) [.box [nI a.al,.d (.ivs a.nx.length (aE a.nx)),.d (.ivs a.ac.length (aD a.ac))],.box [nI 0,.sl 4 0 0 0,.sl 5 0 0 0],.box [nI al2,.sl 6 0 0 d,.sl 7 0 0 d],.arr (ints r) 1 0,.arr [] 0 0,.arr [] 0 0,.arr cn e 0,.arr cs2 e 0] k
  =k (.exit 2) (Y1 (.ptr 0 0 0::.ptr 1 0 0::.d (.ivs o.length (ints o))::.ptr 2 0 0::nI i::.sl 3 0 0 (r++((rowA a v).drop q).map (idxU o)).length::nI ((rowA a v).length)::Y32 (Y16 (Y8 (Y4 (Y1 ([]))))))) [.box [nI a.al,.d (.ivs a.nx.length (aE a.nx)),.d (.ivs a.ac.length (aD a.ac))],.box [nI 0,.sl 4 0 0 0,.sl 5 0 0 0],.box [nI al2,.sl 6 0 0 d,.sl 7 0 0 d],.arr (ints (r++((rowA a v).drop q).map (idxU o))) 1 0,.arr [] 0 0,.arr [] 0 0,.arr cn e 0,.arr cs2 e 0]:=by
 have hio1:(i:Int)<o.length:=om;have hi0:(0:Int)<=i:=om;have hvk:v.toNat<a.nx.length:=om;intro j
 induction j with
 |zero=>
  intro q m r len hq hm hlen hr2;obtain _|m:=m;omega;obtain rfl:q=(rowA a v).length:=om;subst hlen;rw[Bu];unfold rowA at *
  simp-implicitDefEqProofs (maxSteps:=9^7) (disch:=try exact Dz) only[↓DN,↓kRet,UP,simprocAttr,LA,hio1,hi0,hoi,v0,v1,Ah,N3,K5,Tryz.f81]
 |succ j ih=>
  intro q m r len hq hm hlen hr2;obtain _|m:=m;omega;subst hlen;have hk:q<(rowA a v).length:=om;have hx:(rowA a v).getD q 0∈o:=hin _ (jH hk);have ih':=ih (q+1) m (r++[idxU o ((rowA a v).getD q 0)]) (r.length+1) om om smp (by simp;omega);rw[cs1 q]at ih';simp only[Ao,Do]at ih';rw[aB9 hk];have kc_x:=@ZI L o ((rowA a v).getD q 0) hx om hL;have hc:(q:Int)<(rowA a v).length:=om;have hq0:(0:Int)<=q:=om;clear ih hx hin;generalize((rowA a v).drop (q+1)).map (idxU o)=w at *;unfold rowA at *;have hr100:r.length<=1000:=om
  simp-implicitDefEqProofs (maxSteps:=9^7) (disch:=try exact Dz) only[↓DN,↓kRet,UP,simprocAttr,LA,hio1,hi0,hoi,v0,v1,hc,hq0,↓kc_x,↓ih',N3,K5,Tryz.f81]
theorem aGV(hn:3<=n)(hL:2^60<=L){a:Aut}(ha:AOK a){o:List Int}(ho:o.length<=12)(hor:∀x∈o,0<=x/\x<a.nx.length)(hin:∀v∈o,∀x∈rowA a v,x∈o){al2:Int}{k:KE R}:∀(j i m:Nat) (d:List (List Int)) (b:List Bool) (len e:Nat) (hi:i+j=o.length) (hm:j<m) (hd:d=(o.take i).map fun v=>(rowA a v).map (idxU o)) (hb:b=(o.take i).map fun v=>a.ac.getD v.toNat false) (hlen:i=len) (he:e=if i=0 then 0 else 1),
  aT env (aA env L n) L 0 [] Bz23 (xE 0) (U1 (Z4 (Z1 (U32 (U16 (U8 (U4 (U2 (U1 ([])))))))))) m (Y1 (.ptr 0 0 0::.ptr 1 0 0::.d (.ivs o.length (ints o))::.ptr 2 0 0::nI i::Y32 (Y16 (Y8 (Y4 (Y2 (Y1 ([])))))))) [.box [nI a.al,.d (.ivs a.nx.length (aE a.nx)),.d (.ivs a.ac.length (aD a.ac))],.box [nI 0,.sl 3 0 0 0,.sl 4 0 0 0],.box [nI al2,.sl 5 0 0 len,.sl 6 0 0 len],.arr [] 0 0,.arr [] 0 0,.arr (aE d) e 0,.arr (aD b) e 0] k
  =k (.exit 0) (Y1 (.ptr 0 0 0::.ptr 1 0 0::.d (.ivs o.length (ints o))::.ptr 2 0 0::nI (o.length:Int)::Y32 (Y16 (Y8 (Y4 (Y2 (Y1 ([])))))))) [.box [nI a.al,.d (.ivs a.nx.length (aE a.nx)),.d (.ivs a.ac.length (aD a.ac))],.box [nI 0,.sl 3 0 0 0,.sl 4 0 0 0],.box [nI al2,.sl 5 0 0 o.length,.sl 6 0 0 o.length],.arr [] 0 0,.arr [] 0 0,.arr (aE (o.map fun v=>(rowA a v).map (idxU o))) (if o.length=0 then 0 else 1) 0,.arr (aD (o.map fun v=>a.ac.getD v.toNat false)) (if o.length=0 then 0 else 1) 0]:=by
 obtain⟨sa,wa,a1,a2,a3⟩:=aR ha;have hal:=sa.1;intro j
 induction j with
 |zero=>
  intro i m d b len e hi hm hd hb hlen he;obtain _|m:=m;omega;obtain rfl:i=o.length:=om;rw[Cu]at hd hb;subst hd;subst hb;subst hlen;subst he
  simp-implicitDefEqProofs (maxSteps:=9^7) (disch:=try exact Dz) only[↓DN,↓kRet,UP,simprocAttr,Ah,AN,AG,Tryz.f81]
 |succ j ih=>
  intro i m d b len e hi hm hd hb hlen he;obtain _|m:=m;omega;subst hlen;have hio:i<o.length:=om;have hmem:=jH hio;obtain⟨v0,v1⟩:=hor _ hmem;have hin1:=hin _ hmem;have hrl:=(gL ha (i:=(o.getD i 0).toNat) om).1;have hll:=bO a.al
  have htk:o.take (i+1)=o.take i++[o.getD i 0]:=by
   rw[Cz,Ad hio,Aa,Ad hio];rfl
  have hdl:d.length=i:=by rw[hd,Am,Bi];omega
  have hbl:b.length=i:=by rw[hb,Am,Bi];omega
  have ih':=ih (i+1) m (d++[(rowA a (o.getD i 0)).map (idxU o)]) (b++[a.ac.getD (o.getD i 0).toNat false]) (i+1) 1 om om (by rw[htk,hd,Cm];rfl) (by rw[htk,hb,Cm];rfl) rfl (by rw[if_neg om]);rw[cs1 i]at ih';have loop_c:=fun {R:Type} {n:Nat} {d e:Nat} {cn cs2:List D} {k:KE R} (hn:3<=n)=> @aGZ R L n hn hL a o i (o.getD i 0) hio rfl v0 v1 (by unfold rowA;omega) om om hin1 al2 d e cn cs2 k (rowA a (o.getD i 0)).length 0 L [] 0 om (by unfold rowA;omega) rfl (by unfold rowA;rw[Ac];omega);rw[Ba]at loop_c;simp only[Ap,Aq,kG]at loop_c;have hc:(i:Int)<o.length:=om;have hi0:(0:Int)<=i:=om;have hrl2:((rowA a (o.getD i 0)).map (idxU o)).length<=6:=by rw[Am];unfold rowA;omega
  clear ih hin hor hin1 hmem hd hb htk;generalize(rowA a (o.getD i 0)).map (idxU o)=w at *;generalize rowA a (o.getD i 0)=w0 at *;generalize hv:o.getD i 0=v at *;have hvk:v.toNat<a.nx.length:=om;have hva:v.toNat<a.ac.length:=om;have hva2:v<a.ac.length:=om;have ht:(aE d).take i=aE d:=kX om;have ht2:(aD b).take i=aD b:=iJ om;have hwt:(ints w).take w.length=ints w:=by rw[cK (Ab _)]
  have hi12:i<=12:=om
  by_cases hz:i=0
  ·obtain rfl:e=0:=by rw[he,if_pos hz]
   clear he hz
   simp-implicitDefEqProofs (maxSteps:=9^7) (disch:=try exact Dz) only[↓DN,↓kAsg,↓kRet,UP,simprocAttr,LA,hc,hi0,hv,v0,hva2,↓loop_c,ht,ht2,hwt,pJ,EI,↓ih',AN,AG,Tryz.f81]
  ·obtain rfl:e=1:=by rw[he,if_neg hz]
   clear he hz
   simp-implicitDefEqProofs (maxSteps:=9^7) (disch:=try exact Dz) only[↓DN,↓kAsg,↓kRet,UP,simprocAttr,LA,hc,hi0,hv,v0,hva2,↓loop_c,ht,ht2,hwt,pJ,EI,↓ih',AN,AG,Tryz.f81]
theorem aCC(hn:6<=n)(a:Aut)(ha:AOK a)(hL:2^60<=L):aA env L n 81 [.agg [nI a.al,.d (.ivs a.nx.length (aE a.nx)),.d (.ivs a.ac.length (aD a.ac))]] []=some (.agg [.d (.int .i64 (a7 a).al),.d (.ivs (a7 a).nx.length (aE (a7 a).nx)),.d (.ivs (a7 a).ac.length (aD (a7 a).ac))],[]):=by
 obtain⟨sa,wa,a1,a2,a3⟩:=aR ha;obtain⟨W,hB⟩:=gK ha;have hl:=dX hB.nod hB.rng;have hp:=hB.pos
 have hin:∀v∈ordA a,∀x∈rowA a v,x∈ordA a:=by
  intro v hv x hx;obtain⟨v0,v1⟩:=hB.rng v hv;rw[<-DV ha v0 v1]at hx;obtain⟨l,hl,rfl⟩:=Av.1 hx;exact IA hB hv hl
 have loop_c:=fun {R n k} hn=> @aGV R L n hn hL a ha (ordA a) om hB.rng hin a.al k (ordA a).length 0 L [] [] 0 0 om om rfl rfl rfl rfl;have kc_o:=@aLa L a ha hL;simp only[Ap,F3,NW]at loop_c;rw[if_neg om]at loop_c;have hx1:(a7 a).nx.length=(ordA a).length:=Am _;have hx2:(a7 a).ac.length=(ordA a).length:=Am _;have hx3:(a7 a).al=a.al:=rfl;have e1:((ordA a).map fun v=>(rowA a v).map (idxU (ordA a)))=(a7 a).nx:=rfl;have e2:((ordA a).map fun v=>a.ac.getD v.toNat false)=(a7 a).ac:=rfl;rw[e1,e2]at loop_c;rw[hx1,hx2,hx3];have ht1:(aE (a7 a).nx).take (ordA a).length=aE (a7 a).nx:=kX om;have ht2:(aD (a7 a).ac).take (ordA a).length=aD (a7 a).ac:=iJ om;have hr1:(aE (a7 a).nx).length=(ordA a).length:=by rw[jU,hx1]
 have hb1:(aD (a7 a).ac).length=(ordA a).length:=by rw[cU,hx2]
 clear hB hin e1 e2;generalize(a7 a).nx=w1 at *;generalize(a7 a).ac=w2 at *;generalize ordA a=w at *;obtain _|n:=n;omega
 simp-implicitDefEqProofs (maxSteps:=9^7) (disch:=try exact Dz) only[↓DN,↓kAsg,↓kRet,UP,simprocAttr,↓kc_o,↓loop_c,ht1,ht2,hr1,hb1,Ab,aOq,aG7,Tryz.f81]
theorem aCD:type_of% fun {L} a ha hL=>ks fun hn=> @aCC L _ hn a ha hL:=fun {L} a ha hL=>ks fun hn=> @aCC L _ hn a ha hL
def BF(x:Aut)(j i:Nat):List Str:=(List.range' i j).map fun q=>txt (accG x (q:Nat)).1
theorem aOk{x:Aut}{j i:Nat}:BF x (j+1) i=txt (accG x (i:Nat)).1::BF x j (i+1):=by
 simp[BF,Ec]
theorem aOw{a:Aut}(h:AOK a):BF (a7 a) (a7 a).nx.length 0=bX a:=by
 obtain⟨W,hB⟩:=gK h;rw[y5 h hB];have hx1:(a7 a).nx.length=(ordA a).length:=Am _;unfold BF;rw[hx1,<-List.range_eq_range'];apply Cw;intro q hq;unfold accG;rw[if_pos (show cA (a7 a).al (a7 a).nx (a7 a).ac=true from DW h),aSN h hB (Ci.1 hq)]
def ZH(a:Aut):List Str:=if cA a.al a.nx a.ac=true then bX a else []
theorem H3{a:Aut}(h:AOK a):1<=(bX a).length/\(bX a).length<=12:=by
 obtain⟨W,hB⟩:=gK h;obtain⟨sa,wa,a1,a2,a3⟩:=aR h;have hl:=dX hB.nod hB.rng;have hp:=hB.pos;rw[y5 h hB,Am,Db];omega
theorem aBZ(hn:12<=n)(hL:2^60<=L){a:Aut}(ha:AOK a){k:KE R}:∀(q i m:Nat) (o:List Str) (len:Nat) (hq:i+q=a.nx.length) (hm:q<m) (hlen:len=o.length) (ho:o.length+q<=100000),
  aT env (aA env L n) L 0 [] Bz66 (zQ 0) (U2 (Z4 (U16 (U8 (U2 ([])))))) m (Y2 (.d .nils::.ptr 0 0 0::.sl 1 0 0 len::nI i::Y16 (Y8 (Y2 ([]))))) [.box [nI a.al,.d (.ivs a.nx.length (aE a.nx)),.d (.ivs a.ac.length (aD a.ac))],.arr (aM o) 1 0] k
  =k (.exit 0) (Y2 (.d .nils::.ptr 0 0 0::.sl 1 0 0 (o++BF a q i).length::nI (a.nx.length:Int)::Y16 (Y8 (Y2 ([]))))) [.box [nI a.al,.d (.ivs a.nx.length (aE a.nx)),.d (.ivs a.ac.length (aD a.ac))],.arr (aM (o++BF a q i)) 1 0]:=by
 obtain⟨sa,wa,a1,a2,a3⟩:=aR ha;have hac:a.ac.length<=4294967296:=om;have hal:=sa.1;intro q
 induction q with
 |zero=>
  intro i m o len hq hm hlen ho;obtain _|m:=m;omega;obtain rfl:i=a.nx.length:=om;subst hlen;have e:BF a 0 a.nx.length=[]:=rfl;rw[e,Ai]
  simp-implicitDefEqProofs (maxSteps:=9^7) (disch:=try exact Dz) only[↓DN,↓kRet,UP,simprocAttr,Ah,CL,yA,Tryz.f48]
 |succ q ih=>
  intro i m o len hq hm hlen ho;obtain _|m:=m;omega;subst hlen;have hc:(i:Int)<a.nx.length:=om;have kc_s:=@aGh L a i sa hac hL;have ih':=ih (i+1) m (o++[txt (accG a (i:Nat)).1]) (o.length+1) om om smp (by simp;omega);rw[cs1 i]at ih';simp only[Ao,Do]at ih';rw[aOk];clear ih;generalize BF a q (i+1)=w2 at *;generalize accG a (i:Nat)=r at *;obtain⟨w,b⟩:=r;simp only at kc_s ih'|-
  simp-implicitDefEqProofs (maxSteps:=9^7) (disch:=try exact Dz) only[↓DN,↓kRet,UP,simprocAttr,SE,hc,↓kc_s,mV,↓ih',CL,yA,Tryz.f48]
theorem PH(hn:13<=n)(a:Aut)(hs:aW a.nx)(hac:a.ac.length<=4294967296)(hL:2^60<=L):aA env L n 48 [.agg [nI a.al,.d (.ivs a.nx.length (aE a.nx)),.d (.ivs a.ac.length (aD a.ac))]] []=some (.d (.ivs (ZH a).length (aM (ZH a))),[]):=by
 have hrl:=hs.1;unfold ZH
 cases hv:cA a.al a.nx a.ac with
 |false=>
  simp only[Al,if_false,Ac,lF];obtain _|n:=n;omega
  simp-implicitDefEqProofs (maxSteps:=9^7) (disch:=try exact Dz) only[↓DN,↓kAsg,↓kRet,UP,simprocAttr,↓bB,hv,ND,DQ,Tryz.f48]
 |true=>
  have htr:=DW (a:=a) hv;obtain⟨sa,wa,a1,a2,a3⟩:=aR htr;have hl:=H3 (a:=a) hv;have loop_c:=fun {R n k} hn=> @aBZ R L n hn hL (a7 a) htr k (a7 a).nx.length 0 L [] 0 om om rfl (by simp;omega);rw[Aq,aOw hv]at loop_c;have kc_t:=@aCD L a hv hL;simp only[if_true,Ap,lF]at loop_c|-;have hsn:=sa.1;clear htr wa;generalize(a7 a)=x at *;generalize bX a=w at *;have e4:(aM w).take w.length=aM w:=iE (Ab _);obtain _|n:=n;omega
  simp-implicitDefEqProofs (maxSteps:=9^7) (disch:=try exact Dz) only[↓DN,↓kAsg,↓kRet,UP,simprocAttr,↓bB,SE,hv,e4,↓kc_t,↓loop_c,ND,DQ,Tryz.f48]
theorem aFt:type_of% fun {L} a hs hac hL=>ks fun hn=> @PH L _ hn a hs hac hL:=fun {L} a hs hac hL=>ks fun hn=> @PH L _ hn a hs hac hL
end
section
variable{R:Type}{L n:Nat}
def quoN(x:Aut)(cl:List Int)(nc:Nat):Aut:=⟨x.al,(List.range nc).map (fun c=>(rowA x (idxU cl (c:Nat))).map (clA cl)),(List.range nc).map (fun c=>x.ac.getD (idxU cl (c:Nat)).toNat false)⟩
def quoS(x:Aut):Aut:=quoN x (bA x) (aO (bA x)).length
def minS(a:Aut):Aut:=quoS (a7 a)
theorem aPt{α:Type}[DecidableEq α]{l:List α}{c:Nat}(h:c<(aO (numL l)).length):(c:Int)∈numL l:=by
 rw[(C1 (F1 l)).2]at h;refine Av.2 ⟨(aO l)[c],bR.1 (At _),?_⟩;rw[(oZ l).idxOf_getElem]
theorem aVx{x:Aut}(hx:AOK x):AOK (quoS x):=by
 obtain⟨b1,b2,b3,b4⟩:=fK hx;obtain⟨l,e,hl,_,_⟩:=DY hx;have hf:(aO (bA x)).length=(aO l).length:=by rw[e];exact(C1 (F1 l)).2
 have hle:=kS l;have hcl:=FG hx
 have hpos:0<(aO (bA x)).length:=by
  have:(bA x)[0]'om∈aO (bA x):=bR.2 (At _);exact Em this
 unfold quoS;rw[hf]at hpos|-;unfold AOK quoN;refine aEx b4 (by rw[Am,Db];omega) (by rw[Am,Db];omega) (by rw[Am,Am]) ?_;intro r hr;obtain⟨c,hc,rfl⟩:=Av.1 hr;rw[Ci]at hc;have hmem:(c:Int)∈bA x:=by rw[e];exact aPt (by rw[<-e,hf];exact hc)
 have hi:=El hmem;obtain⟨r1,r2⟩:=gL hx (i:=(idxU (bA x) (c:Nat)).toNat) (by unfold idxU;omega);refine⟨by rw[Am];exact r1,?_⟩;intro q hq;obtain⟨y,hy,rfl⟩:=Av.1 hq;obtain⟨j,hj,rfl⟩:=Bz hy;have hj2:j<(x.nx.getD (idxU (bA x) (c:Nat)).toNat []).length:=hj;have hy2:=r2 j om
 have ey:(x.nx.getD (idxU (bA x) (c:Nat)).toNat []).getD j 0=(rowA x (idxU (bA x) (c:Nat)))[j]:=by
  unfold rowA;rw[Aa,Ad hj2];rfl
 rw[ey]at hy2;have:=aEh (l:=l) (i:=((rowA x (idxU (bA x) (c:Nat)))[j]).toNat) om;rw[<-e]at this;rw[Am,Db];exact this
theorem aPp{a:Aut}(h:AOK a):AOK (minS a):=aVx (DW h)
theorem X6(hn:1<=n)(hL:2^60<=L){x:Aut}{cl:List Int}{c nc v:Int}(v0:0<=v)(v1:v<x.nx.length)(hr:(rowA x v).length<=100)(hcl:cl.length<=100)(hal:x.nx.length<=100)(hin:∀q,q<(rowA x v).length->0<=(rowA x v).getD q 0/\(rowA x v).getD q 0<cl.length){al2:Int}{d e:Nat}{cn cs2:List D}{k:KE R}:∀(j q m:Nat) (r:List Int) (len:Nat) (hq:q+j=(rowA x v).length) (hm:j<m) (hlen:len=r.length) (hr2:r.length+j<=1000),
  aT env (aA env L n) L 0 [] Bz33 (pE 1) (U2 (Z8 (Z1 (U32 (U16 (U8 (U4 ([])))))))) m (Y2 (.ptr 0 0 0::.ptr 1 0 0::.d (.ivs cl.length (ints cl))::nI nc::.ptr 2 0 0::nI c::nI v::.sl 3 0 0 len::nI q::Y32 (Y16 (Y8 (Y4 ([])))))) [.box [nI 0,.sl 4 0 0 0,.sl 5 0 0 0],.box [nI x.al,.d (.ivs x.nx.length (aE x.nx)),.d (.ivs x.ac.length (aD x.ac))],.box [nI al2,.sl 6 0 0 d,.sl 7 0 0 d],.arr (ints (r)) 1 0,.arr [] 0 0,.arr [] 0 0,.arr cn e 0,.arr cs2 e 0] k
  =k (.exit 2) (Y2 (.ptr 0 0 0::.ptr 1 0 0::.d (.ivs cl.length (ints cl))::nI nc::.ptr 2 0 0::nI c::nI v::.sl 3 0 0 (r++((rowA x v).drop q).map (clA cl)).length::nI ((rowA x v).length)::Y32 (Y16 (Y8 (Y4 ([])))))) [.box [nI 0,.sl 4 0 0 0,.sl 5 0 0 0],.box [nI x.al,.d (.ivs x.nx.length (aE x.nx)),.d (.ivs x.ac.length (aD x.ac))],.box [nI al2,.sl 6 0 0 d,.sl 7 0 0 d],.arr (ints (r++((rowA x v).drop q).map (clA cl))) 1 0,.arr [] 0 0,.arr [] 0 0,.arr cn e 0,.arr cs2 e 0]:=by
 have hvk:v.toNat<x.nx.length:=om;intro j
 induction j with
 |zero=>
  intro q m r len hq hm hlen hr2;obtain _|m:=m;omega;obtain rfl:q=(rowA x v).length:=om;subst hlen;rw[Bu];unfold rowA at *
  simp-implicitDefEqProofs (maxSteps:=9^7) (disch:=try exact Dz) only[↓DN,↓kRet,UP,simprocAttr,LA,v0,v1,hvk,Ah,E1,BP,Tryz.f66]
 |succ j ih=>
  intro q m r len hq hm hlen hr2;obtain _|m:=m;omega;subst hlen;have hk:q<(rowA x v).length:=om;obtain⟨x0,x1⟩:=hin q hk;have ih':=ih (q+1) m (r++[clA cl ((rowA x v).getD q 0)]) (r.length+1) om om smp (by simp;omega);rw[cs1 q]at ih';simp only[Ao,Do]at ih';rw[aB9 hk];have hc:(q:Int)<(rowA x v).length:=om;have hq0:(0:Int)<=q:=om;have hr100:r.length<=1000:=om;clear ih hin;generalize((rowA x v).drop (q+1)).map (clA cl)=w at *;unfold rowA clA at *
  simp-implicitDefEqProofs (maxSteps:=9^7) (disch:=try exact Dz) only[↓DN,↓kRet,UP,simprocAttr,LA,v0,v1,hvk,hk,hc,hq0,x0,x1,↓ih',E1,BP,Tryz.f66]
theorem YS(hn:3<=n)(hL:2^60<=L){x:Aut}(hx:AOK x){cl:List Int}(hcl:cl.length=x.nx.length){nc:Nat}(hnc:nc<=12)(hit:∀c:Nat,c<nc->(c:Int)∈cl){al2:Int}{k:KE R}:∀(j i m:Nat) (d:List (List Int)) (b:List Bool) (len e:Nat) (hi:i+j=nc) (hm:j<m) (hd:d=(List.range i).map (fun c=>(rowA x (idxU cl (c:Nat))).map (clA cl))) (hb:b=(List.range i).map (fun c=>x.ac.getD (idxU cl (c:Nat)).toNat false)) (hlen:i=len) (he:e=if i=0 then 0 else 1),
  aT env (aA env L n) L 0 [] Bz33 (pE 0) (U2 (Z4 (Z2 (U32 (U16 (U8 (U4 (U2 (U1 ([])))))))))) m (Y2 (.ptr 0 0 0::.ptr 1 0 0::.d (.ivs cl.length (ints cl))::nI nc::.ptr 2 0 0::nI i::Y32 (Y16 (Y8 (Y4 (Y2 (Y1 ([])))))))) [.box [nI 0,.sl 3 0 0 0,.sl 4 0 0 0],.box [nI x.al,.d (.ivs x.nx.length (aE x.nx)),.d (.ivs x.ac.length (aD x.ac))],.box [nI al2,.sl 5 0 0 len,.sl 6 0 0 len],.arr [] 0 0,.arr [] 0 0,.arr (aE d) e 0,.arr (aD b) e 0] k
  =k (.exit 0) (Y2 (.ptr 0 0 0::.ptr 1 0 0::.d (.ivs cl.length (ints cl))::nI nc::.ptr 2 0 0::nI nc::Y32 (Y16 (Y8 (Y4 (Y2 (Y1 ([])))))))) [.box [nI 0,.sl 3 0 0 0,.sl 4 0 0 0],.box [nI x.al,.d (.ivs x.nx.length (aE x.nx)),.d (.ivs x.ac.length (aD x.ac))],.box [nI al2,.sl 5 0 0 nc,.sl 6 0 0 nc],.arr [] 0 0,.arr [] 0 0,.arr (aE ((List.range nc).map (fun c=>(rowA x (idxU cl (c:Nat))).map (clA cl)))) (if nc=0 then 0 else 1) 0,.arr (aD ((List.range nc).map (fun c=>x.ac.getD (idxU cl (c:Nat)).toNat false))) (if nc=0 then 0 else 1) 0]:=by
 obtain⟨sa,wa,a1,a2,a3⟩:=aR hx;have hal:=sa.1;intro j
 induction j with
 |zero=>
  intro i m d b len e hi hm hd hb hlen he;obtain _|m:=m;omega;obtain rfl:i=nc:=om;subst hd;subst hb;subst hlen;subst he
  simp-implicitDefEqProofs (maxSteps:=9^7) (disch:=try exact Dz) only[↓DN,↓kRet,UP,simprocAttr,Ah,tH,sC,Tryz.f66]
 |succ j ih=>
  intro i m d b len e hi hm hd hb hlen he;obtain _|m:=m;omega;subst hlen;have hic:i<nc:=om;have hmem:=hit i hic;have v0:0<=idxU cl (i:Nat):=by unfold idxU;omega
  have v1:idxU cl (i:Nat)<x.nx.length:=by unfold idxU;have:=El hmem;omega
  obtain⟨hrl,hrr⟩:=gL hx (i:=(idxU cl (i:Nat)).toNat) om;have hll:=bO x.al;have hdl:d.length=i:=by rw[hd,Am,Db]
  have hbl:b.length=i:=by rw[hb,Am,Db]
  have ih':=ih (i+1) m (d++[(rowA x (idxU cl (i:Nat))).map (clA cl)]) (b++[x.ac.getD (idxU cl (i:Nat)).toNat false]) (i+1) 1 om om (by rw[List.range_succ,Cm,hd];rfl) (by rw[List.range_succ,Cm,hb];rfl) rfl (by rw[if_neg om]);rw[cs1 i]at ih';have loop_c:=fun {R:Type} {n:Nat} {d e:Nat} {cn cs2:List D} {k:KE R} (hn:1<=n)=> @X6 R L n hn hL x cl (i:Int) (nc:Int) (idxU cl (i:Nat)) v0 v1 (by unfold rowA;omega) om om (fun q hq=>by rw[hcl];exact hrr q (by unfold rowA at hq;omega)) al2 d e cn cs2 k (rowA x (idxU cl (i:Nat))).length 0 L [] 0 om (by unfold rowA;omega) rfl (by unfold rowA;rw[Ac];omega);rw[Ba]at loop_c;simp only[Ap,Aq,kG]at loop_c;have kc_x:=@ZI L cl (i:Int) hmem om hL;have hc:(i:Int)<nc:=om;have hrl2:((rowA x (idxU cl (i:Nat))).map (clA cl)).length<=6:=by rw[Am];unfold rowA;omega
  clear ih hrr hmem hd hb;generalize(rowA x (idxU cl (i:Nat))).map (clA cl)=w at *;generalize rowA x (idxU cl (i:Nat))=w0 at *;generalize idxU cl (i:Nat)=v at *;have hva:v.toNat<x.ac.length:=om;have hva2:v<x.ac.length:=om;have ht:(aE d).take i=aE d:=kX om;have ht2:(aD b).take i=aD b:=iJ om;have hwt:(ints w).take w.length=ints w:=by rw[cK (Ab _)]
  have hi12:i<=12:=om
  by_cases hz:i=0
  ·obtain rfl:e=0:=by rw[he,if_pos hz]
   clear he hz
   simp-implicitDefEqProofs (maxSteps:=9^7) (disch:=try exact Dz) only[↓DN,↓kAsg,↓kRet,UP,simprocAttr,LA,hc,v0,hva2,hva,↓kc_x,↓loop_c,ht,ht2,hwt,pJ,EI,↓ih',tH,sC,Tryz.f66]
  ·obtain rfl:e=1:=by rw[he,if_neg hz]
   clear he hz
   simp-implicitDefEqProofs (maxSteps:=9^7) (disch:=try exact Dz) only[↓DN,↓kAsg,↓kRet,UP,simprocAttr,LA,hc,v0,hva2,hva,↓kc_x,↓loop_c,ht,ht2,hwt,pJ,EI,↓ih',tH,sC,Tryz.f66]
theorem SN(hn:10<=n)(a:Aut)(ha:AOK a)(hL:2^60<=L):aA env L n 66 [.agg [nI a.al,.d (.ivs a.nx.length (aE a.nx)),.d (.ivs a.ac.length (aD a.ac))]] []=some (.agg [.d (.int .i64 (minS a).al),.d (.ivs (minS a).nx.length (aE (minS a).nx)),.d (.ivs (minS a).ac.length (aD (minS a).ac))],[]):=by
 have hx:=DW ha;obtain⟨sa,wa,a1,a2,a3⟩:=aR hx;have hcl:=FG hx;have hnc:(aO (bA (a7 a))).length<=12:=by have:=kS (bA (a7 a));omega
 have hit:∀c:Nat,c<(aO (bA (a7 a))).length->(c:Int)∈bA (a7 a):=by
  obtain⟨l,e,_⟩:=DY hx;rw[e];exact fun c h=>aPt h
 have loop_c:=fun {R n k} hn=> @YS R L n hn hL (a7 a) hx (bA (a7 a)) hcl (aO (bA (a7 a))).length hnc hit a.al k (aO (bA (a7 a))).length 0 L [] [] 0 0 om om rfl rfl rfl rfl;have kc_t:=@aCD L a ha hL;have kc_c:=@aHP L (a7 a) hx hL;simp only[Ap,F3,NW]at loop_c;have hx1:(minS a).nx.length=(aO (bA (a7 a))).length:=by unfold minS quoS quoN;rw[Am,Db]
 have hx2:(minS a).ac.length=(aO (bA (a7 a))).length:=by unfold minS quoS quoN;rw[Am,Db]
 have hx3:(minS a).al=a.al:=rfl;have e1:((List.range (aO (bA (a7 a))).length).map fun c=>(rowA (a7 a) (idxU (bA (a7 a)) (c:Nat))).map (clA (bA (a7 a))))=(minS a).nx:=rfl;have e2:((List.range (aO (bA (a7 a))).length).map fun c=>(a7 a).ac.getD (idxU (bA (a7 a)) (c:Nat)).toNat false)=(minS a).ac:=rfl;rw[e1,e2]at loop_c;have hy1:(aE (minS a).nx).length=(aO (bA (a7 a))).length:=by rw[jU,hx1]
 have hy2:(aD (minS a).ac).length=(aO (bA (a7 a))).length:=by rw[cU,hx2]
 have ht1:(aE (minS a).nx).take (aO (bA (a7 a))).length=aE (minS a).nx:=kX om;have ht2:(aD (minS a).ac).take (aO (bA (a7 a))).length=aD (minS a).ac:=iJ om;rw[hx1,hx2,hx3]
 have hpos:0<(aO (bA (a7 a))).length:=by
  have:(bA (a7 a))[0]'om∈aO (bA (a7 a)):=bR.2 (At _);exact Em this
 rw[if_neg om]at loop_c;clear e1 e2 hit;generalize(minS a).nx=w1 at *;generalize(minS a).ac=w2 at *;generalize(aO (bA (a7 a))).length=z at *;generalize bA (a7 a)=w at *;generalize a7 a=x at *;obtain _|n:=n;omega
 simp-implicitDefEqProofs (maxSteps:=9^7) (disch:=try exact Dz) only[↓DN,↓kAsg,↓kRet,UP,simprocAttr,↓kc_t,↓kc_c,↓loop_c,ht1,ht2,hy1,hy2,Ab,aHl,WJ,Tryz.f66]
theorem aIc:type_of% fun {L} a ha hL=>ks fun hn=> @SN L _ hn a ha hL:=fun {L} a ha hL=>ks fun hn=> @SN L _ hn a ha hL
theorem xI(hn:12<=n)(a:Aut)(ha:AOK a)(hL:2^60<=L):aA env L n 32 [.agg [nI a.al,.d (.ivs a.nx.length (aE a.nx)),.d (.ivs a.ac.length (aD a.ac))]] []=some (.tup [.agg [.d (.int .i64 (minS a).al),.d (.ivs (minS a).nx.length (aE (minS a).nx)),.d (.ivs (minS a).ac.length (aD (minS a).ac))],.d (.bool true)],[]):=by
 obtain⟨sa,wa,a1,a2,a3⟩:=aR ha;have hrl:=sa.1;have hac:a.ac.length<=4294967296:=om;have kc_t:=@aIc L a ha hL;unfold AOK at ha;generalize minS a=x at *;obtain _|n:=n;omega
 simp-implicitDefEqProofs (maxSteps:=9^7) (disch:=try exact Dz) only[↓DN,↓kAsg,↓kRet,UP,simprocAttr,↓bB,ha,↓kc_t,xH,oD,Tryz.f32]
theorem P0:type_of% fun {L} a ha hL=>ks fun hn=> @xI L _ hn a ha hL:=fun {L} a ha hL=>ks fun hn=> @xI L _ hn a ha hL
theorem L4(hn:12<=n)(a:Aut)(hs:aW a.nx)(hac:a.ac.length<=4294967296)(ha:cA a.al a.nx a.ac=false)(hL:2^60<=L):aA env L n 32 [.agg [nI a.al,.d (.ivs a.nx.length (aE a.nx)),.d (.ivs a.ac.length (aD a.ac))]] []=some (.tup [.agg [nI 0,.d (.ivs 0 []),.d (.ivs 0 [])],.d (.bool false)],[]):=by
 obtain _|n:=n;omega
 simp-implicitDefEqProofs (maxSteps:=9^7) (disch:=try exact Dz) only[↓DN,↓kAsg,↓kRet,UP,simprocAttr,↓bB,ha,xH,oD,Tryz.f32]
end
theorem aUv{R:Type}{L n:Nat}{hq:H}{al:Int}{ac:List Bool}{k:KA R}(hn:2<=n)(ha:ac.length<=4294967295)(hL:2^60<=L):aX env (aA env L n) hq 60 [.agg [nI al,.d (.ivs 0 []),.d (.ivs ac.length (aD ac))]] k=k (.agg [nI al,.sl hq.length 0 0 0,.sl (hq.length+1) 0 0 ac.length]) (hq++[.arr [] 0 0,.arr (aD ac) 1 0]):=by
 have he:aA env L n 60 [.agg [nI al,.d (.ivs 0 []),.d (.ivs ac.length (aD ac))]] []=some (.agg [nI al,.sl 0 0 0 0,.sl 1 0 0 ac.length],[.arr [] 0 0,.arr (aD ac) 1 0]):=N6 hn al ac ha hL
 have hcall:bY (aA env L n) env.hint [] 60 [.agg [nI al,.d (.ivs 0 []),.d (.ivs ac.length (aD ac))]]=some (.agg [nI al,.sl 0 0 0 0,.sl 1 0 0 ac.length],[.arr [] 0 0,.arr (aD ac) 1 0]):=by
  have hf:d8 [] [.agg [nI al,.d (.ivs 0 []),.d (.ivs ac.length (aD ac))]]=some ([.agg [nI al,.d (.ivs 0 []),.d (.ivs ac.length (aD ac))]],[]):=rfl;unfold bY;rw[rA];simp only[hf,he]<;>rfl
 have hids:idsL [A.agg [nI al,.d (.ivs 0 []),.d (.ivs ac.length (aD ac))]]=[]:=rfl;unfold aX;rw[hids,AB,fU _ hids];have hp:pack hq []=[]:=rfl;rw[hp,hcall];simp only[Ac,Nat.zero_le,true_and,closed,Cd,Bq,if_true,bJ];simp[mapA,aG,back,mapO,aD]
theorem aQ2{c:List UInt8}(al:Int)(ac:List Bool)(ha:ac.length<=4294966000)(p:Int):(Dw 4 29 [autD al [] ac] (autD al [] ac) c p p):=by
 have e0:aE []=[]:=rfl;intro R L n hq k hn hL;refine b7 BU (by simp[autD,idsA,idsL]) (by simp[autD,idsA,idsL]) ?_;simp only[autD,e0,Ac];obtain _|n:=n;omega
 simp-implicitDefEqProofs (maxSteps:=9^7) (disch:=try exact Dz) only[↓DN,↓kRet,UP,simprocAttr,LA,↓aUv,eT,eS,Tryz.f29]
theorem S8{c:List UInt8}(hc:c.length<=2000){B:Nat}(hB:B<=4294966000)(al:Int)(nx:List (List Int))(ac:List Bool)(hb:AutB B nx ac)(p:Int)(hp:0<=p)(hp2:p<=890000000):
  ∃(nx2:List (List Int)) (ac2:List Bool) (q:Int),AutB (B+1) nx2 ac2/\p<=q/\q<=p+4/\(Dw 4 29 [autD al nx ac] (autD al nx2 ac2) c p q):=by
 by_cases h1:1<=nx.length
 ·obtain⟨nx2,ac2,q,a,_,b,d,e⟩:=aCO hc hB al nx ac hb h1 p hp hp2;exact⟨nx2,ac2,q,a,b,d,e⟩
 ·obtain rfl:nx=[]:=Bw.1 om;have ha:=hb.a;exact⟨[],ac,p,hb.mono om,by omega,by omega,aQ2 al ac om p⟩
theorem aXy{a:Aut}(h:AOK a):AutB 12 (minS a).nx (minS a).ac:=by
 obtain⟨sa,wa,a1,a2,a3⟩:=aR (aPp h);refine⟨a2,by omega,fun r hr=> ?_⟩;obtain⟨i,hi,rfl⟩:=Bz hr;have:=(gL (aPp h) hi).1;rw[Aa,Ad hi]at this;have h6:=bO (minS a).al;show(minS a).nx[i].length<=12;simp only[Bg]at this;omega
theorem XG(c0:List UInt8)(hc0:c0.length<=4294967296):∃(a b:Aut) (x:Int),AutB 50 a.nx a.ac/\AutB 50 b.nx b.ac/\ -1<=x/\x<=3/\∀(R:Type) (L n:Nat) (hq:H) (k:KA R),20<=n->2^60<=L->aX env (aA env L n) hq 12 [.d (.ivs c0.length (bM c0))] k=k (.tup [autD a.al a.nx a.ac,autD b.al b.nx b.ac,nI x]) hq:=by
 have hc:=aWQ c0;generalize hcs:src c0=c at hc;obtain⟨al,nx,ac,q,b0,g2,g3,kd1⟩:=aPX hc 0 om om;obtain⟨nx1,ac1,q1,b1,r1,s1,kd2⟩:=S8 hc (B:=45) om al nx ac b0 q om om;obtain⟨nx2,ac2,q2,b2,r2,s2,kd3⟩:=S8 hc (B:=46) om al nx1 ac1 b1 q1 om om;obtain⟨w,w0,w1,_,kd4⟩:=eC hc q2 6 om om;have hs:=b0.short om;have haa:=b0.a;have kd_a:=fun {R:Type} {hq:H} {k:KA R} {i:Nat} {L n:Nat}=> @wX L n _ _ _ _ _ _ _ rfl rfl kd1 R hq k i;have kd_b:=fun {R:Type} {hq:H} {k:KA R} {i:Nat} {L n:Nat}=> @wX L n _ _ _ _ _ _ _ rfl rfl kd2 R hq k i;have kd_c:=fun {R:Type} {hq:H} {k:KA R} {i:Nat} {L n:Nat}=> @wX L n _ _ _ _ _ _ _ rfl rfl kd3 R hq k i;have kd_d:=fun {R:Type} {hq:H} {k:KA R} {i:Nat} {L n:Nat}=> @wX L n _ _ _ _ _ _ _ rfl rfl kd4 R hq k i;clear kd1 kd2 kd3 kd4
 by_cases h0:w=0
 ·subst h0;obtain⟨al3,nx3,ac3,q3,e1,e2,e3,e4,e5,e6,kd5⟩:=aKb hc (q2+1) om om;obtain⟨x,x0,x1,kd6⟩:=EH hc q3 om om;refine⟨⟨al,nx,ac⟩,⟨al3,nx3,ac3⟩,x,b0.mono om,⟨by show nx3.length<=50;omega,by show ac3.length<=50;omega,fun r hr=>by have:=e4 r hr;have:=bO al3;omega⟩,x0,x1,fun R L n hq k hn hL=>bS rfl ?_ rfl (.inr rfl)⟩;have kd_e:=fun {R:Type} {hq:H} {k:KA R} {i:Nat} {L n:Nat}=> @wX L n _ _ _ _ _ _ _ rfl rfl kd5 R hq k i;have kd_f:=fun {R:Type} {hq:H} {k:KA R} {i:Nat} {L n:Nat}=> @wX L n _ _ _ _ _ _ _ rfl rfl kd6 R hq k i;clear kd5 kd6 b0 b1 b2 e4;unfold autD at kd_a kd_b kd_c kd_e|-;obtain _|n:=n;omega
  simp-implicitDefEqProofs (maxSteps:=9^7) (disch:=try exact Dz) only[↓DN,↓kAsg,↓kRet,UP,simprocAttr,↓J5,hcs,↓kd_a,↓kd_b,↓kd_c,↓kd_d,↓kd_e,↓kd_f,Bj,gC,eU,Tryz.f12]
 by_cases h1:w=1
 ·subst h1;obtain⟨x,x0,x1,kd6⟩:=EH hc (q2+1) om om;have kd_f:=fun {R:Type} {hq:H} {k:KA R} {i:Nat} {L n:Nat}=> @wX L n _ _ _ _ _ _ _ rfl rfl kd6 R hq k i
  cases hv:cA al nx ac with
  |true=>
   refine⟨⟨al,nx,ac⟩,minS ⟨al,nx,ac⟩,x,b0.mono om,(aXy (a:=⟨al,nx,ac⟩) hv).mono om,x0,x1,fun R L n hq k hn hL=>bS rfl ?_ rfl (.inr rfl)⟩;have kc_m:=@P0 L ⟨al,nx,ac⟩ hv hL;clear kd6 b0 b1 b2;unfold autD at kd_a kd_b kd_c|-;generalize minS ⟨al,nx,ac⟩=z at *;obtain _|n:=n;omega
   simp-implicitDefEqProofs (maxSteps:=9^7) (disch:=try exact Dz) only[↓DN,↓kAsg,↓kRet,UP,simprocAttr,↓J5,hcs,↓kd_a,↓kd_b,↓kd_c,↓kd_d,↓kd_f,↓kc_m,Bj,gC,eU,Tryz.f12]
  |false=>
   refine⟨⟨al,nx,ac⟩,⟨al,nx2,ac2⟩,x,b0.mono om,b2.mono om,x0,x1,fun R L n hq k hn hL=>bS rfl ?_ rfl (.inr rfl)⟩;have kc_m:=fun {R:Type} {n:Nat} {hq:H} {k:KA R} (hn:12<=n)=>bS (E:=env) (h:=hq) (k:=k) rfl (L4 (L:=L) hn ⟨al,nx,ac⟩ hs (by show ac.length<=_;omega) hv hL) rfl (.inr rfl);clear kd6 b0 b1 b2;unfold autD at kd_a kd_b kd_c|-;obtain _|n:=n;omega
   simp-implicitDefEqProofs (maxSteps:=9^7) (disch:=try exact Dz) only[↓DN,↓kAsg,↓kRet,UP,simprocAttr,↓J5,hcs,↓kd_a,↓kd_b,↓kd_c,↓kd_d,↓kd_f,↓kc_m,Bj,gC,eU,Tryz.f12]
 by_cases h2:w=2
 ·subst h2;obtain⟨nx3,ac3,q3,b3,r3,s3,kd5⟩:=S8 hc (B:=45) om al nx ac b0 (q2+1) om om;obtain⟨x,x0,x1,kd6⟩:=EH hc q3 om om;refine⟨⟨al,nx,ac⟩,⟨al,nx3,ac3⟩,x,b0.mono om,b3.mono om,x0,x1,fun R L n hq k hn hL=>bS rfl ?_ rfl (.inr rfl)⟩;have kd_e:=fun {R:Type} {hq:H} {k:KA R} {i:Nat} {L n:Nat}=> @wX L n _ _ _ _ _ _ _ rfl rfl kd5 R hq k i;have kd_f:=fun {R:Type} {hq:H} {k:KA R} {i:Nat} {L n:Nat}=> @wX L n _ _ _ _ _ _ _ rfl rfl kd6 R hq k i;clear kd5 kd6 b0 b1 b2 b3;unfold autD at kd_a kd_b kd_c kd_e|-;obtain _|n:=n;omega
  simp-implicitDefEqProofs (maxSteps:=9^7) (disch:=try exact Dz) only[↓DN,↓kAsg,↓kRet,UP,simprocAttr,↓J5,hcs,↓kd_a,↓kd_b,↓kd_c,↓kd_d,↓kd_e,↓kd_f,Bj,gC,eU,Tryz.f12]
 ·obtain⟨x,x0,x1,kd6⟩:=EH hc (q2+1) om om;refine⟨⟨al,nx,ac⟩,⟨al,nx2,ac2⟩,x,b0.mono om,b2.mono om,x0,x1,fun R L n hq k hn hL=>bS rfl ?_ rfl (.inr rfl)⟩;have kd_f:=fun {R:Type} {hq:H} {k:KA R} {i:Nat} {L n:Nat}=> @wX L n _ _ _ _ _ _ _ rfl rfl kd6 R hq k i;clear kd6 b0 b1 b2;unfold autD at kd_a kd_b kd_c|-;obtain _|n:=n;omega
  simp-implicitDefEqProofs (maxSteps:=9^7) (disch:=try exact Dz) only[↓DN,↓kAsg,↓kRet,UP,simprocAttr,↓J5,hcs,↓kd_a,↓kd_b,↓kd_c,↓kd_d,↓kd_f,h0,h1,h2,Bj,gC,eU,Tryz.f12]
theorem YL(c0:List UInt8)(hc0:c0.length<=4294967296):∃(a b:Aut) (x:Int),AutB 50 a.nx a.ac/\AutB 50 b.nx b.ac/\ -1<=x/\x<=3/\∀(R:Type) (L n:Nat) (hq:H) (k:KA R),21<=n->2^60<=L->aX env (aA env L n) hq 5 [.d (.ivs c0.length (bM c0))] k=k (.tup [autD a.al a.nx a.ac,autD b.al b.nx b.ac,nI x]) hq:=by
 obtain⟨a,b,x,b1,b2,x0,x1,kd⟩:=XG c0 hc0;refine⟨a,b,x,b1,b2,x0,x1,fun R L n hq k hn hL=>bS rfl ?_ rfl (.inr rfl)⟩;unfold autD at kd|-;obtain _|n:=n;omega
 simp-implicitDefEqProofs (maxSteps:=9^7) (disch:=try exact Dz) only[↓DN,↓kAsg,↓kRet,UP,simprocAttr,↓kd,TK,CO,Tryz.f5]
end Ev
end Go.Proofs.YtppffbehejpglaaGreatDoor
