/-
  The first word that leads to a state: the reference's way.
-/
import Derived.Test.YtppffbehejpglaaGreatTrimL
import Derived.Test.YtppffbehejpglaaGreatClassS
import Derived.Test.YtppffbehejpglaaGreatLeast
set_option linter.unusedSimpArgs false
set_option linter.unusedVariables false
set_option linter.unusedSectionVars false
set_option maxRecDepth 8000
set_option maxHeartbeats 4000000
namespace Go.Proofs.YtppffbehejpglaaGreat
namespace Ev
def netO(a:Aut)(st:Int):Net:=⟨[],[a],[0],a.al,5,st⟩
theorem aL8{na v:Int}(h0:0<=v)(h1:v<na):decN [na] v=[v]:=by
 show [v.tmod na]=[v]
 rw[Eq h0,Int.emod_eq_of_lt h0 h1]
theorem aOs{a:Aut}(ha:AOK a)(st:Int):YW (nxS a) (glS st) (aB a.al) a.nx.length 0=oneG a st:=by
 obtain⟨_,_,h1,_,_⟩:=aV ha;refine sJ (aIQ (fun v c h0 h1 hc=> ?_) (mH _) om om) (GX ha st);have:=cK c hc;exact PG ha h0 h1 om
theorem aHF{L n:Nat}(hn:11<=n)(hL:2^60<=L){a:Aut}(ha:AOK a)(st:Int):
  aA env L n 99 [.agg [.d .nils,.d (.ivs 1 (gE [a])),.d (.ivs 1 (ints [0])),nI a.al,nI 5,nI st]] []=some (.tup [.d (.str (txt (oneG a st).1)),.d (.bool (oneG a st).2)],[]):=by
 obtain⟨sa,aw,a1,a2,a3⟩:=aV ha;have hz:OL (netO a st)=[(a.nx.length:Int)]:=rfl;rw[<-aOs ha st]
 have key:=@VX L n hn hL 1 (gE [a]) 5 st a.al 0 [0] [(a.nx.length:Int)] (nxS a) (glS st) a.nx.length sm rfl (by
   intro q hq
   match q,hq with
   |0,_=>exact⟨by simp,by simp⟩
   |1,_=>simp;omega
   |q+2,hq=>simp at hq) sm (by intro z hz;simp at hz;subst hz;omega) (by
   simp only[RC,and_true];refine⟨by omega,by omega,?_⟩
   simp) (by simp[encN]) om om
   (fun {n} hn=>by
    have:=@US L n hn (netO a st) (by simp[netO]) (by simp[netO]) (fun x hx=>by simp[netO]at hx;subst hx;omega) hL;exact this)
   (fun v l hv hl {R n hq k} hn=>by
    have hl2:=cK l hl;rw[aL8 om om];have ga:=nV ha (q:=(v:Int)) om om hl2.1 om
    have hnx:nexG (fun i=>[goI a.al a.nx (v:Int) l]) [(a.nx.length:Int)] 1 0 [0]=nxS a v l:=by
     simp[nexG,mulN,nxS]
    rw[<-hnx];refine b6 rfl (@XP L n hn hL 0 1 1 [] (gE [a]) (ints [0]) a.al 5 st [(a.nx.length:Int)] [(v:Int)] l (fun i=>[goI a.al a.nx (v:Int) l]) (fun i=>if i=0 then 0 else 11) rfl sm (fun t ht {R n hq k} hn=> ?_) (fun t ht=> ?_) (fun t ht=> ?_) (fun t ht c hc=> ?_) sm (fun t ht=> ?_)) rfl (.inr rfl)
    ·match t,ht with
     |0,_=>exact b6 rfl (BE hn (netO a st) 0 _ l (Ab _) (by simp[netO]) (by simp[netO]) (by simp[netO]) a rfl sa aw (by show(0:Int)<=(v:Int);omega) (by show(v:Int)<_;omega) hl2.1 om hL) rfl (.inr rfl)
     |t+1,ht=>exact absurd ht (by show ¬(t+1<1);omega)
    ·match t,ht with
     |0,_=>simp;omega
     |t+1,ht=>exact absurd ht (by show ¬(t+1<1);omega)
    ·simp
    ·match t,ht with
     |0,_=>simp at hc;subst hc;simpa using ga
     |t+1,ht=>exact absurd ht (by show ¬(t+1<1);omega)
    ·match t,ht with
     |0,_=>simp;omega
     |t+1,ht=>exact absurd ht (by show ¬(t+1<1);omega))
   (fun v hv {R n k} hn=>by
    rw[aL8 om om];have hg:NT (netO a st) [(v:Int)] ((movT (nxS a) (aB a.al) a.nx.length).getD v [])=glS st v:=rfl;rw[<-hg];exact mJ (aHB om (netO a st) [(v:Int)] ((movT (nxS a) (aB a.al) a.nx.length).getD v []) rfl (by simp[netO]) (by simp[netO]) sm) rfl)
   (fun v c h0 h1 hc=>by
    have:=cK c hc;exact⟨by simp[nxS],PG ha h0 h1 om⟩)
 exact key
theorem LV{L n:Nat}(hn:12<=n)(a:Aut)(st:Int)(hs:aY a.nx)(hac:a.ac.length<=4294967296)(hL:2^60<=L):aA env L n 74 [.agg [nI a.al,.d (.ivs a.nx.length (aG a.nx)),.d (.ivs a.ac.length (aD a.ac))],nI st] []=some (.tup [.d (.str (txt (accG a st).1)),.d (.bool (accG a st).2)],[]):=by
 have hrl:=hs.1;unfold accG
 cases hv:bX a.al a.nx a.ac with
 |false=>
  simp only[Ak,if_false,txt,Ar];obtain _|n:=n;omega
  simp-implicitDefEqProofs (maxSteps:=9^7) (disch:=try exact Dz) only[↓DN,↓kAsg,↓kRet,UP,simprocAttr,↓a8,hv,zS,tL,Tryz.f74]
 |true=>
  simp only[if_true]
  by_cases h1:0<=st/\st<a.nx.length
  ·obtain⟨h1,h2⟩:=h1;have kc_b:=fun {R:Type} {n:Nat} {k:A->Option R} (hn:11<=n)=>mJ (call:=aA env L n) (k:=k) (f:=99) (@aHF L n hn hL a hv st) rfl;simp only[gE,ints,Ai,Ar]at kc_b;have kl_b:=fun {R:Type} {n:Nat} {k:A->Option R} (hn:11<=n)=>kc_b (R:=R) (n:=n) (k:=k) hn;have kv_l:=fun {R:Type} {n:Nat} {hq:H} {args:List A} {k:KA R}=>eA (E:=env) (call:=aA env L n) (h:=hq) (k:=k) (args:=args) tG;clear kc_b;generalize oneG a st=r at *;obtain _|n:=n;omega
   simp-implicitDefEqProofs (maxSteps:=9^7) (disch:=try exact Dz) only[↓DN,↓kAsg,↓kRet,UP,simprocAttr,↓a8,↓rS,hv,h1,h2,↓kv_l,↓kl_b,zS,tL,Tryz.f74]
  ·rw[aSf hv h1]
   have e3:(decide (0<=st)&&decide (st<a.nx.length))=false:=by
    rw[Bool.and_eq_false_iff,decide_eq_false_iff_not,decide_eq_false_iff_not];omega
   simp only[txt,Ar];obtain _|n:=n;omega
   simp-implicitDefEqProofs (maxSteps:=9^7) (disch:=try exact Dz) only[↓DN,↓kAsg,↓kRet,UP,simprocAttr,↓a8,↓rS,hv,e3,zS,tL,Tryz.f74]
theorem aEa:type_of% fun {L} a st hs hac hL=>ks fun hn=> @LV L _ hn a st hs hac hL:=fun {L} a st hs hac hL=>ks fun hn=> @LV L _ hn a st hs hac hL
section
variable{R:Type}{L n:Nat}
theorem aAk{f:Int->Int}{r:List Int}{k:Nat}(h:k<r.length):(r.drop k).map f=f (r.getD k 0)::(r.drop (k+1)).map f:=by
 rw[cB h (d:=0)];rfl
theorem CE{b:List Bool}{x:Bool}:aD b++[.bool x]=aD (b++[x]):=by simp[aD]
theorem aDH(hn:3<=n)(hL:2^60<=L){a:Aut}{o:List Int}{i:Nat}{v:Int}(hio:i<o.length)(hoi:o.getD i 0=v)(v0:0<=v)(v1:v<a.nx.length)(hr:(rowA a v).length<=100)(ho:o.length<=100)(hal:a.nx.length<=100)(hin:∀x∈rowA a v,x∈o){al2:Int}{d e:Nat}{cn cs2:List D}{k:KE R}:∀(j q m:Nat) (r:List Int) (len:Nat) (hq:q+j=(rowA a v).length) (hm:j<m) (hlen:len=r.length) (hr2:r.length+j<=1000),
  aR env (aA env L n) L 0 [] Bz20 (vD 1) (U1 (Z4 (Z2 (Z1 (U32 (U16 (U8 (U4 (U1 ([])))))))))) m (Y1 (.ptr 0 0 0::.ptr 1 0 0::.d (.ivs o.length (ints o))::.ptr 2 0 0::nI i::.sl 3 0 0 len::nI q::Y32 (Y16 (Y8 (Y4 (Y1 ([]))))))) [.box [nI a.al,.d (.ivs a.nx.length (aG a.nx)),.d (.ivs a.ac.length (aD a.ac))],.box [nI 0,.sl 4 0 0 0,.sl 5 0 0 0],.box [nI al2,.sl 6 0 0 d,.sl 7 0 0 d],.arr (ints r) 1 0,.arr [] 0 0,.arr [] 0 0,.arr cn e 0,.arr cs2 e 0] k
  =k (.exit 2) (Y1 (.ptr 0 0 0::.ptr 1 0 0::.d (.ivs o.length (ints o))::.ptr 2 0 0::nI i::.sl 3 0 0 (r++((rowA a v).drop q).map (idxU o)).length::nI ((rowA a v).length)::Y32 (Y16 (Y8 (Y4 (Y1 ([]))))))) [.box [nI a.al,.d (.ivs a.nx.length (aG a.nx)),.d (.ivs a.ac.length (aD a.ac))],.box [nI 0,.sl 4 0 0 0,.sl 5 0 0 0],.box [nI al2,.sl 6 0 0 d,.sl 7 0 0 d],.arr (ints (r++((rowA a v).drop q).map (idxU o))) 1 0,.arr [] 0 0,.arr [] 0 0,.arr cn e 0,.arr cs2 e 0]:=by
 have hio1:(i:Int)<o.length:=om;have hi0:(0:Int)<=i:=om;have hvk:v.toNat<a.nx.length:=om;intro j
 induction j with
 |zero=>
  intro q m r len hq hm hlen hr2;obtain _|m:=m;omega;obtain rfl:q=(rowA a v).length:=om;subst hlen;rw[Bw];unfold rowA at *
  simp-implicitDefEqProofs (maxSteps:=9^7) (disch:=try exact Dz) only[↓DN,↓kRet,UP,simprocAttr,LA,hio1,hi0,hoi,v0,v1,Ah,LG,IY,Tryz.f68]
 |succ j ih=>
  intro q m r len hq hm hlen hr2;obtain _|m:=m;omega;subst hlen;have hk:q<(rowA a v).length:=om;have hx:(rowA a v).getD q 0∈o:=hin _ (s7 hk);have ih':=ih (q+1) m (r++[idxU o ((rowA a v).getD q 0)]) (r.length+1) om om sm (by simp;omega);rw[cs1 q]at ih';simp only[Al,Ea]at ih';rw[aAk hk];have kc_x:=@XB L o ((rowA a v).getD q 0) hx om hL;have hc:(q:Int)<(rowA a v).length:=om;have hq0:(0:Int)<=q:=om;clear ih hx hin;generalize((rowA a v).drop (q+1)).map (idxU o)=w at *;unfold rowA at *;have hr100:r.length<=1000:=om
  simp-implicitDefEqProofs (maxSteps:=9^7) (disch:=try exact Dz) only[↓DN,↓kRet,UP,simprocAttr,LA,hio1,hi0,hoi,v0,v1,hc,hq0,↓kc_x,↓ih',LG,IY,Tryz.f68]
theorem aDv(hn:3<=n)(hL:2^60<=L){a:Aut}(ha:AOK a){o:List Int}(ho:o.length<=12)(hor:∀x∈o,0<=x/\x<a.nx.length)(hin:∀v∈o,∀x∈rowA a v,x∈o){al2:Int}{k:KE R}:∀(j i m:Nat) (d:List (List Int)) (b:List Bool) (len e:Nat) (hi:i+j=o.length) (hm:j<m) (hd:d=(o.take i).map fun v=>(rowA a v).map (idxU o)) (hb:b=(o.take i).map fun v=>a.ac.getD v.toNat false) (hlen:i=len) (he:e=if i=0 then 0 else 1),
  aR env (aA env L n) L 0 [] Bz20 (vD 0) (U1 (Z4 (Z1 (U32 (U16 (U8 (U4 (U2 (U1 ([])))))))))) m (Y1 (.ptr 0 0 0::.ptr 1 0 0::.d (.ivs o.length (ints o))::.ptr 2 0 0::nI i::Y32 (Y16 (Y8 (Y4 (Y2 (Y1 ([])))))))) [.box [nI a.al,.d (.ivs a.nx.length (aG a.nx)),.d (.ivs a.ac.length (aD a.ac))],.box [nI 0,.sl 3 0 0 0,.sl 4 0 0 0],.box [nI al2,.sl 5 0 0 len,.sl 6 0 0 len],.arr [] 0 0,.arr [] 0 0,.arr (aG d) e 0,.arr (aD b) e 0] k
  =k (.exit 0) (Y1 (.ptr 0 0 0::.ptr 1 0 0::.d (.ivs o.length (ints o))::.ptr 2 0 0::nI (o.length:Int)::Y32 (Y16 (Y8 (Y4 (Y2 (Y1 ([])))))))) [.box [nI a.al,.d (.ivs a.nx.length (aG a.nx)),.d (.ivs a.ac.length (aD a.ac))],.box [nI 0,.sl 3 0 0 0,.sl 4 0 0 0],.box [nI al2,.sl 5 0 0 o.length,.sl 6 0 0 o.length],.arr [] 0 0,.arr [] 0 0,.arr (aG (o.map fun v=>(rowA a v).map (idxU o))) (if o.length=0 then 0 else 1) 0,.arr (aD (o.map fun v=>a.ac.getD v.toNat false)) (if o.length=0 then 0 else 1) 0]:=by
 obtain⟨sa,wa,a1,a2,a3⟩:=aV ha;have hal:=sa.1;intro j
 induction j with
 |zero=>
  intro i m d b len e hi hm hd hb hlen he;obtain _|m:=m;omega;obtain rfl:i=o.length:=om;rw[Cv]at hd hb;subst hd;subst hb;subst hlen;subst he
  simp-implicitDefEqProofs (maxSteps:=9^7) (disch:=try exact Dz) only[↓DN,↓kRet,UP,simprocAttr,Ah,zC,y6,Tryz.f68]
 |succ j ih=>
  intro i m d b len e hi hm hd hb hlen he;obtain _|m:=m;omega;subst hlen;have hio:i<o.length:=om;have hmem:=s7 hio;obtain⟨v0,v1⟩:=hor _ hmem;have hin1:=hin _ hmem;have hrl:=(kN ha (i:=(o.getD i 0).toNat) om).1;have hll:=bQ a.al
  have htk:o.take (i+1)=o.take i++[o.getD i 0]:=by
   rw[De,Ad hio,Aa,Ad hio];rfl
  have hdl:d.length=i:=by rw[hd,Ao,Bk];omega
  have hbl:b.length=i:=by rw[hb,Ao,Bk];omega
  have ih':=ih (i+1) m (d++[(rowA a (o.getD i 0)).map (idxU o)]) (b++[a.ac.getD (o.getD i 0).toNat false]) (i+1) 1 om om (by rw[htk,hd,Cw];rfl) (by rw[htk,hb,Cw];rfl) rfl (by rw[if_neg om]);rw[cs1 i]at ih';have loop_c:=fun {R:Type} {n:Nat} {d e:Nat} {cn cs2:List D} {k:KE R} (hn:3<=n)=> @aDH R L n hn hL a o i (o.getD i 0) hio rfl v0 v1 (by unfold rowA;omega) om om hin1 al2 d e cn cs2 k (rowA a (o.getD i 0)).length 0 L [] 0 om (by unfold rowA;omega) rfl (by unfold rowA;rw[Ac];omega);rw[Ba]at loop_c;simp only[Aq,Ap,mL]at loop_c;have hc:(i:Int)<o.length:=om;have hi0:(0:Int)<=i:=om;have hrl2:((rowA a (o.getD i 0)).map (idxU o)).length<=6:=by rw[Ao];unfold rowA;omega
  clear ih hin hor hin1 hmem hd hb htk;generalize(rowA a (o.getD i 0)).map (idxU o)=w at *;generalize rowA a (o.getD i 0)=w0 at *;generalize hv:o.getD i 0=v at *;have hvk:v.toNat<a.nx.length:=om;have hva:v.toNat<a.ac.length:=om;have hva2:v<a.ac.length:=om;have ht:(aG d).take i=aG d:=mC om;have ht2:(aD b).take i=aD b:=kF om;have hwt:(ints w).take w.length=ints w:=by rw[cW (Ab _)]
  have hi12:i<=12:=om
  by_cases hz:i=0
  ·obtain rfl:e=0:=by rw[he,if_pos hz]
   clear he hz
   simp-implicitDefEqProofs (maxSteps:=9^7) (disch:=try exact Dz) only[↓DN,↓kAsg,↓kRet,UP,simprocAttr,LA,hc,hi0,hv,v0,hva2,↓loop_c,ht,ht2,hwt,r7,CE,↓ih',zC,y6,Tryz.f68]
  ·obtain rfl:e=1:=by rw[he,if_neg hz]
   clear he hz
   simp-implicitDefEqProofs (maxSteps:=9^7) (disch:=try exact Dz) only[↓DN,↓kAsg,↓kRet,UP,simprocAttr,LA,hc,hi0,hv,v0,hva2,↓loop_c,ht,ht2,hwt,r7,CE,↓ih',zC,y6,Tryz.f68]
theorem aAm(hn:6<=n)(a:Aut)(ha:AOK a)(hL:2^60<=L):aA env L n 68 [.agg [nI a.al,.d (.ivs a.nx.length (aG a.nx)),.d (.ivs a.ac.length (aD a.ac))]] []=some (.agg [.d (.int .i64 (bO a).al),.d (.ivs (bO a).nx.length (aG (bO a).nx)),.d (.ivs (bO a).ac.length (aD (bO a).ac))],[]):=by
 obtain⟨sa,wa,a1,a2,a3⟩:=aV ha;obtain⟨W,hB⟩:=tZ ha;have hl:=iF hB.nod hB.rng;have hp:=hB.pos
 have hin:∀v∈ordA a,∀x∈rowA a v,x∈ordA a:=by
  intro v hv x hx;obtain⟨v0,v1⟩:=hB.rng v hv;rw[<-YK ha v0 v1]at hx;obtain⟨l,hl,rfl⟩:=Bf.1 hx;exact PX hB hv hl
 have loop_c:=fun {R n k} hn=> @aDv R L n hn hL a ha (ordA a) om hB.rng hin a.al k (ordA a).length 0 L [] [] 0 0 om om rfl rfl rfl rfl;have kc_o:=@aJP L a ha hL;simp only[Aq,ML,aGc]at loop_c;rw[if_neg om]at loop_c;have hx1:(bO a).nx.length=(ordA a).length:=Ao _;have hx2:(bO a).ac.length=(ordA a).length:=Ao _;have hx3:(bO a).al=a.al:=rfl;have e1:((ordA a).map fun v=>(rowA a v).map (idxU (ordA a)))=(bO a).nx:=rfl;have e2:((ordA a).map fun v=>a.ac.getD v.toNat false)=(bO a).ac:=rfl;rw[e1,e2]at loop_c;rw[hx1,hx2,hx3];have ht1:(aG (bO a).nx).take (ordA a).length=aG (bO a).nx:=mC om;have ht2:(aD (bO a).ac).take (ordA a).length=aD (bO a).ac:=kF om;have hr1:(aG (bO a).nx).length=(ordA a).length:=by rw[nO,hx1]
 have hb1:(aD (bO a).ac).length=(ordA a).length:=by rw[cL,hx2]
 clear hB hin e1 e2;generalize(bO a).nx=w1 at *;generalize(bO a).ac=w2 at *;generalize ordA a=w at *;obtain _|n:=n;omega
 simp-implicitDefEqProofs (maxSteps:=9^7) (disch:=try exact Dz) only[↓DN,↓kAsg,↓kRet,UP,simprocAttr,↓kc_o,↓loop_c,ht1,ht2,hr1,hb1,Ab,aLl,aCZ,Tryz.f68]
theorem aAx:type_of% fun {L} a ha hL=>ks fun hn=> @aAm L _ hn a ha hL:=fun {L} a ha hL=>ks fun hn=> @aAm L _ hn a ha hL
def z7(x:Aut)(j i:Nat):List Str:=(List.range' i j).map fun q=>txt (accG x (q:Nat)).1
theorem aLy{x:Aut}{j i:Nat}:z7 x (j+1) i=txt (accG x (i:Nat)).1::z7 x j (i+1):=by
 simp[z7,Du]
theorem aLk{a:Aut}(h:AOK a):z7 (bO a) (bO a).nx.length 0=cH a:=by
 obtain⟨W,hB⟩:=tZ h;rw[D5 h hB];have hx1:(bO a).nx.length=(ordA a).length:=Ao _;unfold z7;rw[hx1,<-List.range_eq_range'];apply Ec;intro q hq;unfold accG;rw[if_pos (show bX (bO a).al (bO a).nx (bO a).ac=true from H9 h),aPw h hB (Ch.1 hq)]
def XX(a:Aut):List Str:=if bX a.al a.nx a.ac=true then cH a else []
theorem GE{a:Aut}(h:AOK a):1<=(cH a).length/\(cH a).length<=12:=by
 obtain⟨W,hB⟩:=tZ h;obtain⟨sa,wa,a1,a2,a3⟩:=aV h;have hl:=iF hB.nod hB.rng;have hp:=hB.pos;rw[D5 h hB,Ao,Dg];omega
theorem ZH(hn:12<=n)(hL:2^60<=L){a:Aut}(ha:AOK a){k:KE R}:∀(q i m:Nat) (o:List Str) (len:Nat) (hq:i+q=a.nx.length) (hm:q<m) (hlen:len=o.length) (ho:o.length+q<=100000),
  aR env (aA env L n) L 0 [] Bz63 (zE 0) (U2 (Z4 (U16 (U8 (U2 ([])))))) m (Y2 (.d .nils::.ptr 0 0 0::.sl 1 0 0 len::nI i::Y16 (Y8 (Y2 ([]))))) [.box [nI a.al,.d (.ivs a.nx.length (aG a.nx)),.d (.ivs a.ac.length (aD a.ac))],.arr (aM o) 1 0] k
  =k (.exit 0) (Y2 (.d .nils::.ptr 0 0 0::.sl 1 0 0 (o++z7 a q i).length::nI (a.nx.length:Int)::Y16 (Y8 (Y2 ([]))))) [.box [nI a.al,.d (.ivs a.nx.length (aG a.nx)),.d (.ivs a.ac.length (aD a.ac))],.arr (aM (o++z7 a q i)) 1 0]:=by
 obtain⟨sa,wa,a1,a2,a3⟩:=aV ha;have hac:a.ac.length<=4294967296:=om;have hal:=sa.1;intro q
 induction q with
 |zero=>
  intro i m o len hq hm hlen ho;obtain _|m:=m;omega;obtain rfl:i=a.nx.length:=om;subst hlen;have e:z7 a 0 a.nx.length=[]:=rfl;rw[e,Aj]
  simp-implicitDefEqProofs (maxSteps:=9^7) (disch:=try exact Dz) only[↓DN,↓kRet,UP,simprocAttr,Ah,AN,wX,Tryz.f41]
 |succ q ih=>
  intro i m o len hq hm hlen ho;obtain _|m:=m;omega;subst hlen;have hc:(i:Int)<a.nx.length:=om;have kc_s:=@aEa L a i sa hac hL;have ih':=ih (i+1) m (o++[txt (accG a (i:Nat)).1]) (o.length+1) om om sm (by simp;omega);rw[cs1 i]at ih';simp only[Al,Ea]at ih';rw[aLy];clear ih;generalize z7 a q (i+1)=w2 at *;generalize accG a (i:Nat)=r at *;obtain⟨w,b⟩:=r;simp only at kc_s ih'|-
  simp-implicitDefEqProofs (maxSteps:=9^7) (disch:=try exact Dz) only[↓DN,↓kRet,UP,simprocAttr,SE,hc,↓kc_s,lT,↓ih',AN,wX,Tryz.f41]
theorem KJ(hn:13<=n)(a:Aut)(hs:aY a.nx)(hac:a.ac.length<=4294967296)(hL:2^60<=L):aA env L n 41 [.agg [nI a.al,.d (.ivs a.nx.length (aG a.nx)),.d (.ivs a.ac.length (aD a.ac))]] []=some (.d (.ivs (XX a).length (aM (XX a))),[]):=by
 have hrl:=hs.1;unfold XX
 cases hv:bX a.al a.nx a.ac with
 |false=>
  simp only[Ak,if_false,Ac,kM];obtain _|n:=n;omega
  simp-implicitDefEqProofs (maxSteps:=9^7) (disch:=try exact Dz) only[↓DN,↓kAsg,↓kRet,UP,simprocAttr,↓a8,hv,J6,BC,Tryz.f41]
 |true=>
  have htr:=H9 (a:=a) hv;obtain⟨sa,wa,a1,a2,a3⟩:=aV htr;have hl:=GE (a:=a) hv;have loop_c:=fun {R n k} hn=> @ZH R L n hn hL (bO a) htr k (bO a).nx.length 0 L [] 0 om om rfl (by simp;omega);rw[Ap,aLk hv]at loop_c;have kc_t:=@aAx L a hv hL;simp only[if_true,Aq,kM]at loop_c|-;have hsn:=sa.1;clear htr wa;generalize(bO a)=x at *;generalize cH a=w at *;have e4:(aM w).take w.length=aM w:=gG (Ab _);obtain _|n:=n;omega
  simp-implicitDefEqProofs (maxSteps:=9^7) (disch:=try exact Dz) only[↓DN,↓kAsg,↓kRet,UP,simprocAttr,↓a8,SE,hv,e4,↓kc_t,↓loop_c,J6,BC,Tryz.f41]
theorem aDh:type_of% fun {L} a hs hac hL=>ks fun hn=> @KJ L _ hn a hs hac hL:=fun {L} a hs hac hL=>ks fun hn=> @KJ L _ hn a hs hac hL
end
section
variable{R:Type}{L n:Nat}
def quoN(x:Aut)(cl:List Int)(nc:Nat):Aut:=⟨x.al,(List.range nc).map (fun c=>(rowA x (idxU cl (c:Nat))).map (clA cl)),(List.range nc).map (fun c=>x.ac.getD (idxU cl (c:Nat)).toNat false)⟩
def quoS(x:Aut):Aut:=quoN x (bP x) (aU (bP x)).length
def minS(a:Aut):Aut:=quoS (bO a)
theorem aL3{α:Type}[DecidableEq α]{l:List α}{c:Nat}(h:c<(aU (numL l)).length):(c:Int)∈numL l:=by
 rw[(RM (LY l)).2]at h;refine Bf.2 ⟨(aU l)[c],b7.1 (At _),?_⟩;rw[(zL l).idxOf_getElem]
theorem aSg{x:Aut}(hx:AOK x):AOK (quoS x):=by
 obtain⟨b1,b2,b3,b4⟩:=fW hx;obtain⟨l,e,hl,_,_⟩:=aCa hx;have hf:(aU (bP x)).length=(aU l).length:=by rw[e];exact(RM (LY l)).2
 have hle:=oV l;have hcl:=W9 hx
 have hpos:0<(aU (bP x)).length:=by
  have:(bP x)[0]'om∈aU (bP x):=b7.2 (At _);exact Em this
 unfold quoS;rw[hf]at hpos|-;unfold AOK quoN;refine aKn b4 (by rw[Ao,Dg];omega) (by rw[Ao,Dg];omega) (by rw[Ao,Ao]) ?_;intro r hr;obtain⟨c,hc,rfl⟩:=Bf.1 hr;rw[Ch]at hc;have hmem:(c:Int)∈bP x:=by rw[e];exact aL3 (by rw[<-e,hf];exact hc)
 have hi:=El hmem;obtain⟨r1,r2⟩:=kN hx (i:=(idxU (bP x) (c:Nat)).toNat) (by unfold idxU;omega);refine⟨by rw[Ao];exact r1,?_⟩;intro q hq;obtain⟨y,hy,rfl⟩:=Bf.1 hq;obtain⟨j,hj,rfl⟩:=Cb hy;have hj2:j<(x.nx.getD (idxU (bP x) (c:Nat)).toNat []).length:=hj;have hy2:=r2 j om
 have ey:(x.nx.getD (idxU (bP x) (c:Nat)).toNat []).getD j 0=(rowA x (idxU (bP x) (c:Nat)))[j]:=by
  unfold rowA;rw[Aa,Ad hj2];rfl
 rw[ey]at hy2;have:=aB2 (l:=l) (i:=((rowA x (idxU (bP x) (c:Nat)))[j]).toNat) om;rw[<-e]at this;rw[Ao,Dg];exact this
theorem aLZ{a:Aut}(h:AOK a):AOK (minS a):=aSg (H9 h)
theorem UJ(hn:1<=n)(hL:2^60<=L){x:Aut}{cl:List Int}{c nc v:Int}(v0:0<=v)(v1:v<x.nx.length)(hr:(rowA x v).length<=100)(hcl:cl.length<=100)(hal:x.nx.length<=100)(hin:∀q,q<(rowA x v).length->0<=(rowA x v).getD q 0/\(rowA x v).getD q 0<cl.length){al2:Int}{d e:Nat}{cn cs2:List D}{k:KE R}:∀(j q m:Nat) (r:List Int) (len:Nat) (hq:q+j=(rowA x v).length) (hm:j<m) (hlen:len=r.length) (hr2:r.length+j<=1000),
  aR env (aA env L n) L 0 [] Bz28 (nW 1) (U2 (Z8 (Z1 (U32 (U16 (U8 (U4 ([])))))))) m (Y2 (.ptr 0 0 0::.ptr 1 0 0::.d (.ivs cl.length (ints cl))::nI nc::.ptr 2 0 0::nI c::nI v::.sl 3 0 0 len::nI q::Y32 (Y16 (Y8 (Y4 ([])))))) [.box [nI 0,.sl 4 0 0 0,.sl 5 0 0 0],.box [nI x.al,.d (.ivs x.nx.length (aG x.nx)),.d (.ivs x.ac.length (aD x.ac))],.box [nI al2,.sl 6 0 0 d,.sl 7 0 0 d],.arr (ints (r)) 1 0,.arr [] 0 0,.arr [] 0 0,.arr cn e 0,.arr cs2 e 0] k
  =k (.exit 2) (Y2 (.ptr 0 0 0::.ptr 1 0 0::.d (.ivs cl.length (ints cl))::nI nc::.ptr 2 0 0::nI c::nI v::.sl 3 0 0 (r++((rowA x v).drop q).map (clA cl)).length::nI ((rowA x v).length)::Y32 (Y16 (Y8 (Y4 ([])))))) [.box [nI 0,.sl 4 0 0 0,.sl 5 0 0 0],.box [nI x.al,.d (.ivs x.nx.length (aG x.nx)),.d (.ivs x.ac.length (aD x.ac))],.box [nI al2,.sl 6 0 0 d,.sl 7 0 0 d],.arr (ints (r++((rowA x v).drop q).map (clA cl))) 1 0,.arr [] 0 0,.arr [] 0 0,.arr cn e 0,.arr cs2 e 0]:=by
 have hvk:v.toNat<x.nx.length:=om;intro j
 induction j with
 |zero=>
  intro q m r len hq hm hlen hr2;obtain _|m:=m;omega;obtain rfl:q=(rowA x v).length:=om;subst hlen;rw[Bw];unfold rowA at *
  simp-implicitDefEqProofs (maxSteps:=9^7) (disch:=try exact Dz) only[↓DN,↓kRet,UP,simprocAttr,LA,v0,v1,hvk,Ah,D6,zI,Tryz.f39]
 |succ j ih=>
  intro q m r len hq hm hlen hr2;obtain _|m:=m;omega;subst hlen;have hk:q<(rowA x v).length:=om;obtain⟨x0,x1⟩:=hin q hk;have ih':=ih (q+1) m (r++[clA cl ((rowA x v).getD q 0)]) (r.length+1) om om sm (by simp;omega);rw[cs1 q]at ih';simp only[Al,Ea]at ih';rw[aAk hk];have hc:(q:Int)<(rowA x v).length:=om;have hq0:(0:Int)<=q:=om;have hr100:r.length<=1000:=om;clear ih hin;generalize((rowA x v).drop (q+1)).map (clA cl)=w at *;unfold rowA clA at *
  simp-implicitDefEqProofs (maxSteps:=9^7) (disch:=try exact Dz) only[↓DN,↓kRet,UP,simprocAttr,LA,v0,v1,hvk,hk,hc,hq0,x0,x1,↓ih',D6,zI,Tryz.f39]
theorem WY(hn:3<=n)(hL:2^60<=L){x:Aut}(hx:AOK x){cl:List Int}(hcl:cl.length=x.nx.length){nc:Nat}(hnc:nc<=12)(hit:∀c:Nat,c<nc->(c:Int)∈cl){al2:Int}{k:KE R}:∀(j i m:Nat) (d:List (List Int)) (b:List Bool) (len e:Nat) (hi:i+j=nc) (hm:j<m) (hd:d=(List.range i).map (fun c=>(rowA x (idxU cl (c:Nat))).map (clA cl))) (hb:b=(List.range i).map (fun c=>x.ac.getD (idxU cl (c:Nat)).toNat false)) (hlen:i=len) (he:e=if i=0 then 0 else 1),
  aR env (aA env L n) L 0 [] Bz28 (nW 0) (U2 (Z4 (Z2 (U32 (U16 (U8 (U4 (U2 (U1 ([])))))))))) m (Y2 (.ptr 0 0 0::.ptr 1 0 0::.d (.ivs cl.length (ints cl))::nI nc::.ptr 2 0 0::nI i::Y32 (Y16 (Y8 (Y4 (Y2 (Y1 ([])))))))) [.box [nI 0,.sl 3 0 0 0,.sl 4 0 0 0],.box [nI x.al,.d (.ivs x.nx.length (aG x.nx)),.d (.ivs x.ac.length (aD x.ac))],.box [nI al2,.sl 5 0 0 len,.sl 6 0 0 len],.arr [] 0 0,.arr [] 0 0,.arr (aG d) e 0,.arr (aD b) e 0] k
  =k (.exit 0) (Y2 (.ptr 0 0 0::.ptr 1 0 0::.d (.ivs cl.length (ints cl))::nI nc::.ptr 2 0 0::nI nc::Y32 (Y16 (Y8 (Y4 (Y2 (Y1 ([])))))))) [.box [nI 0,.sl 3 0 0 0,.sl 4 0 0 0],.box [nI x.al,.d (.ivs x.nx.length (aG x.nx)),.d (.ivs x.ac.length (aD x.ac))],.box [nI al2,.sl 5 0 0 nc,.sl 6 0 0 nc],.arr [] 0 0,.arr [] 0 0,.arr (aG ((List.range nc).map (fun c=>(rowA x (idxU cl (c:Nat))).map (clA cl)))) (if nc=0 then 0 else 1) 0,.arr (aD ((List.range nc).map (fun c=>x.ac.getD (idxU cl (c:Nat)).toNat false))) (if nc=0 then 0 else 1) 0]:=by
 obtain⟨sa,wa,a1,a2,a3⟩:=aV hx;have hal:=sa.1;intro j
 induction j with
 |zero=>
  intro i m d b len e hi hm hd hb hlen he;obtain _|m:=m;omega;obtain rfl:i=nc:=om;subst hd;subst hb;subst hlen;subst he
  simp-implicitDefEqProofs (maxSteps:=9^7) (disch:=try exact Dz) only[↓DN,↓kRet,UP,simprocAttr,Ah,sI,rK,Tryz.f39]
 |succ j ih=>
  intro i m d b len e hi hm hd hb hlen he;obtain _|m:=m;omega;subst hlen;have hic:i<nc:=om;have hmem:=hit i hic;have v0:0<=idxU cl (i:Nat):=by unfold idxU;omega
  have v1:idxU cl (i:Nat)<x.nx.length:=by unfold idxU;have:=El hmem;omega
  obtain⟨hrl,hrr⟩:=kN hx (i:=(idxU cl (i:Nat)).toNat) om;have hll:=bQ x.al;have hdl:d.length=i:=by rw[hd,Ao,Dg]
  have hbl:b.length=i:=by rw[hb,Ao,Dg]
  have ih':=ih (i+1) m (d++[(rowA x (idxU cl (i:Nat))).map (clA cl)]) (b++[x.ac.getD (idxU cl (i:Nat)).toNat false]) (i+1) 1 om om (by rw[List.range_succ,Cw,hd];rfl) (by rw[List.range_succ,Cw,hb];rfl) rfl (by rw[if_neg om]);rw[cs1 i]at ih';have loop_c:=fun {R:Type} {n:Nat} {d e:Nat} {cn cs2:List D} {k:KE R} (hn:1<=n)=> @UJ R L n hn hL x cl (i:Int) (nc:Int) (idxU cl (i:Nat)) v0 v1 (by unfold rowA;omega) om om (fun q hq=>by rw[hcl];exact hrr q (by unfold rowA at hq;omega)) al2 d e cn cs2 k (rowA x (idxU cl (i:Nat))).length 0 L [] 0 om (by unfold rowA;omega) rfl (by unfold rowA;rw[Ac];omega);rw[Ba]at loop_c;simp only[Aq,Ap,mL]at loop_c;have kc_x:=@XB L cl (i:Int) hmem om hL;have hc:(i:Int)<nc:=om;have hrl2:((rowA x (idxU cl (i:Nat))).map (clA cl)).length<=6:=by rw[Ao];unfold rowA;omega
  clear ih hrr hmem hd hb;generalize(rowA x (idxU cl (i:Nat))).map (clA cl)=w at *;generalize rowA x (idxU cl (i:Nat))=w0 at *;generalize idxU cl (i:Nat)=v at *;have hva:v.toNat<x.ac.length:=om;have hva2:v<x.ac.length:=om;have ht:(aG d).take i=aG d:=mC om;have ht2:(aD b).take i=aD b:=kF om;have hwt:(ints w).take w.length=ints w:=by rw[cW (Ab _)]
  have hi12:i<=12:=om
  by_cases hz:i=0
  ·obtain rfl:e=0:=by rw[he,if_pos hz]
   clear he hz
   simp-implicitDefEqProofs (maxSteps:=9^7) (disch:=try exact Dz) only[↓DN,↓kAsg,↓kRet,UP,simprocAttr,LA,hc,v0,hva2,hva,↓kc_x,↓loop_c,ht,ht2,hwt,r7,CE,↓ih',sI,rK,Tryz.f39]
  ·obtain rfl:e=1:=by rw[he,if_neg hz]
   clear he hz
   simp-implicitDefEqProofs (maxSteps:=9^7) (disch:=try exact Dz) only[↓DN,↓kAsg,↓kRet,UP,simprocAttr,LA,hc,v0,hva2,hva,↓kc_x,↓loop_c,ht,ht2,hwt,r7,CE,↓ih',sI,rK,Tryz.f39]
theorem OC(hn:10<=n)(a:Aut)(ha:AOK a)(hL:2^60<=L):aA env L n 39 [.agg [nI a.al,.d (.ivs a.nx.length (aG a.nx)),.d (.ivs a.ac.length (aD a.ac))]] []=some (.agg [.d (.int .i64 (minS a).al),.d (.ivs (minS a).nx.length (aG (minS a).nx)),.d (.ivs (minS a).ac.length (aD (minS a).ac))],[]):=by
 have hx:=H9 ha;obtain⟨sa,wa,a1,a2,a3⟩:=aV hx;have hcl:=W9 hx;have hnc:(aU (bP (bO a))).length<=12:=by have:=oV (bP (bO a));omega
 have hit:∀c:Nat,c<(aU (bP (bO a))).length->(c:Int)∈bP (bO a):=by
  obtain⟨l,e,_⟩:=aCa hx;rw[e];exact fun c h=>aL3 h
 have loop_c:=fun {R n k} hn=> @WY R L n hn hL (bO a) hx (bP (bO a)) hcl (aU (bP (bO a))).length hnc hit a.al k (aU (bP (bO a))).length 0 L [] [] 0 0 om om rfl rfl rfl rfl;have kc_t:=@aAx L a ha hL;have kc_c:=@aFn L (bO a) hx hL;simp only[Aq,ML,aGc]at loop_c;have hx1:(minS a).nx.length=(aU (bP (bO a))).length:=by unfold minS quoS quoN;rw[Ao,Dg]
 have hx2:(minS a).ac.length=(aU (bP (bO a))).length:=by unfold minS quoS quoN;rw[Ao,Dg]
 have hx3:(minS a).al=a.al:=rfl;have e1:((List.range (aU (bP (bO a))).length).map fun c=>(rowA (bO a) (idxU (bP (bO a)) (c:Nat))).map (clA (bP (bO a))))=(minS a).nx:=rfl;have e2:((List.range (aU (bP (bO a))).length).map fun c=>(bO a).ac.getD (idxU (bP (bO a)) (c:Nat)).toNat false)=(minS a).ac:=rfl;rw[e1,e2]at loop_c;have hy1:(aG (minS a).nx).length=(aU (bP (bO a))).length:=by rw[nO,hx1]
 have hy2:(aD (minS a).ac).length=(aU (bP (bO a))).length:=by rw[cL,hx2]
 have ht1:(aG (minS a).nx).take (aU (bP (bO a))).length=aG (minS a).nx:=mC om;have ht2:(aD (minS a).ac).take (aU (bP (bO a))).length=aD (minS a).ac:=kF om;rw[hx1,hx2,hx3]
 have hpos:0<(aU (bP (bO a))).length:=by
  have:(bP (bO a))[0]'om∈aU (bP (bO a)):=b7.2 (At _);exact Em this
 rw[if_neg om]at loop_c;clear e1 e2 hit;generalize(minS a).nx=w1 at *;generalize(minS a).ac=w2 at *;generalize(aU (bP (bO a))).length=z at *;generalize bP (bO a)=w at *;generalize bO a=x at *;obtain _|n:=n;omega
 simp-implicitDefEqProofs (maxSteps:=9^7) (disch:=try exact Dz) only[↓DN,↓kAsg,↓kRet,UP,simprocAttr,↓kc_t,↓kc_c,↓loop_c,ht1,ht2,hy1,hy2,Ab,aFj,SS,Tryz.f39]
theorem aFv:type_of% fun {L} a ha hL=>ks fun hn=> @OC L _ hn a ha hL:=fun {L} a ha hL=>ks fun hn=> @OC L _ hn a ha hL
theorem vN(hn:12<=n)(a:Aut)(ha:AOK a)(hL:2^60<=L):aA env L n 14 [.agg [nI a.al,.d (.ivs a.nx.length (aG a.nx)),.d (.ivs a.ac.length (aD a.ac))]] []=some (.tup [.agg [.d (.int .i64 (minS a).al),.d (.ivs (minS a).nx.length (aG (minS a).nx)),.d (.ivs (minS a).ac.length (aD (minS a).ac))],.d (.bool true)],[]):=by
 obtain⟨sa,wa,a1,a2,a3⟩:=aV ha;have hrl:=sa.1;have hac:a.ac.length<=4294967296:=om;have kc_t:=@aFv L a ha hL;unfold AOK at ha;generalize minS a=x at *;obtain _|n:=n;omega
 simp-implicitDefEqProofs (maxSteps:=9^7) (disch:=try exact Dz) only[↓DN,↓kAsg,↓kRet,UP,simprocAttr,↓a8,ha,↓kc_t,u4,n9,Tryz.f14]
theorem NA:type_of% fun {L} a ha hL=>ks fun hn=> @vN L _ hn a ha hL:=fun {L} a ha hL=>ks fun hn=> @vN L _ hn a ha hL
theorem IT(hn:12<=n)(a:Aut)(hs:aY a.nx)(hac:a.ac.length<=4294967296)(ha:bX a.al a.nx a.ac=false)(hL:2^60<=L):aA env L n 14 [.agg [nI a.al,.d (.ivs a.nx.length (aG a.nx)),.d (.ivs a.ac.length (aD a.ac))]] []=some (.tup [.agg [nI 0,.d (.ivs 0 []),.d (.ivs 0 [])],.d (.bool false)],[]):=by
 obtain _|n:=n;omega
 simp-implicitDefEqProofs (maxSteps:=9^7) (disch:=try exact Dz) only[↓DN,↓kAsg,↓kRet,UP,simprocAttr,↓a8,ha,u4,n9,Tryz.f14]
end
theorem aRg{R:Type}{L n:Nat}{hq:H}{al:Int}{ac:List Bool}{k:KA R}(hn:2<=n)(ha:ac.length<=4294967295)(hL:2^60<=L):aW env (aA env L n) hq 32 [.agg [nI al,.d (.ivs 0 []),.d (.ivs ac.length (aD ac))]] k=k (.agg [nI al,.sl hq.length 0 0 0,.sl (hq.length+1) 0 0 ac.length]) (hq++[.arr [] 0 0,.arr (aD ac) 1 0]):=by
 have he:aA env L n 32 [.agg [nI al,.d (.ivs 0 []),.d (.ivs ac.length (aD ac))]] []=some (.agg [nI al,.sl 0 0 0 0,.sl 1 0 0 ac.length],[.arr [] 0 0,.arr (aD ac) 1 0]):=KL hn al ac ha hL
 have hcall:bS (aA env L n) env.hint [] 32 [.agg [nI al,.d (.ivs 0 []),.d (.ivs ac.length (aD ac))]]=some (.agg [nI al,.sl 0 0 0 0,.sl 1 0 0 ac.length],[.arr [] 0 0,.arr (aD ac) 1 0]):=by
  have hf:dX [] [.agg [nI al,.d (.ivs 0 []),.d (.ivs ac.length (aD ac))]]=some ([.agg [nI al,.d (.ivs 0 []),.d (.ivs ac.length (aD ac))]],[]):=rfl;unfold bS;rw[pW];simp only[hf,he]<;>rfl
 have hids:idsL [A.agg [nI al,.d (.ivs 0 []),.d (.ivs ac.length (aD ac))]]=[]:=rfl;unfold aW;rw[hids,oM,eD _ hids];have hp:pack hq []=[]:=rfl;rw[hp,hcall];simp only[Ac,Co,true_and,closed,Bz,Bt,if_true,bG];simp[mapA,aF,back,mapO,aD]
theorem aNv{c:List UInt8}(al:Int)(ac:List Bool)(ha:ac.length<=4294966000)(p:Int):(Dw 4 11 [autD al [] ac] (autD al [] ac) c p p):=by
 have e0:aG []=[]:=rfl;intro R L n hq k hn hL;refine b5 AC (by simp[autD,idsA,idsL]) (by simp[autD,idsA,idsL]) ?_;simp only[autD,e0,Ac];obtain _|n:=n;omega
 simp-implicitDefEqProofs (maxSteps:=9^7) (disch:=try exact Dz) only[↓DN,↓kRet,UP,simprocAttr,LA,↓aRg,eR,eO,Tryz.f11]
theorem QW{c:List UInt8}(hc:c.length<=2000){B:Nat}(hB:B<=4294966000)(al:Int)(nx:List (List Int))(ac:List Bool)(hb:AutB B nx ac)(p:Int)(hp:0<=p)(hp2:p<=890000000):
  ∃(nx2:List (List Int)) (ac2:List Bool) (q:Int),AutB (B+1) nx2 ac2/\p<=q/\q<=p+4/\(Dw 4 11 [autD al nx ac] (autD al nx2 ac2) c p q):=by
 by_cases h1:1<=nx.length
 ·obtain⟨nx2,ac2,q,a,_,b,d,e⟩:=aAS hc hB al nx ac hb h1 p hp hp2;exact⟨nx2,ac2,q,a,b,d,e⟩
 ·obtain rfl:nx=[]:=Bs.1 om;have ha:=hb.a;exact⟨[],ac,p,hb.mono om,by omega,by omega,aNv al ac om p⟩
theorem aS7{a:Aut}(h:AOK a):AutB 12 (minS a).nx (minS a).ac:=by
 obtain⟨sa,wa,a1,a2,a3⟩:=aV (aLZ h);refine⟨a2,by omega,fun r hr=> ?_⟩;obtain⟨i,hi,rfl⟩:=Cb hr;have:=(kN (aLZ h) hi).1;rw[Aa,Ad hi]at this;have h6:=bQ (minS a).al;show(minS a).nx[i].length<=12;simp only[Bb]at this;omega
theorem TN(c0:List UInt8)(hc0:c0.length<=4294967296):∃(a b:Aut) (x:Int),AutB 50 a.nx a.ac/\AutB 50 b.nx b.ac/\ -1<=x/\x<=3/\∀(R:Type) (L n:Nat) (hq:H) (k:KA R),20<=n->2^60<=L->aW env (aA env L n) hq 4 [.d (.ivs c0.length (bK c0))] k=k (.tup [autD a.al a.nx a.ac,autD b.al b.nx b.ac,nI x]) hq:=by
 have hc:=aSm c0;generalize hcs:src c0=c at hc;obtain⟨al,nx,ac,q,b0,g2,g3,kd1⟩:=aMv hc 0 om om;obtain⟨nx1,ac1,q1,b1,r1,s1,kd2⟩:=QW hc (B:=45) om al nx ac b0 q om om;obtain⟨nx2,ac2,q2,b2,r2,s2,kd3⟩:=QW hc (B:=46) om al nx1 ac1 b1 q1 om om;obtain⟨w,w0,w1,_,kd4⟩:=d6 hc q2 6 om om;have hs:=b0.short om;have haa:=b0.a;have kd_a:=fun {R:Type} {hq:H} {k:KA R} {i:Nat} {L n:Nat}=> @vL L n _ _ _ _ _ _ _ rfl rfl kd1 R hq k i;have kd_b:=fun {R:Type} {hq:H} {k:KA R} {i:Nat} {L n:Nat}=> @vL L n _ _ _ _ _ _ _ rfl rfl kd2 R hq k i;have kd_c:=fun {R:Type} {hq:H} {k:KA R} {i:Nat} {L n:Nat}=> @vL L n _ _ _ _ _ _ _ rfl rfl kd3 R hq k i;have kd_d:=fun {R:Type} {hq:H} {k:KA R} {i:Nat} {L n:Nat}=> @vL L n _ _ _ _ _ _ _ rfl rfl kd4 R hq k i;clear kd1 kd2 kd3 kd4
 by_cases h0:w=0
 ·subst h0;obtain⟨al3,nx3,ac3,q3,e1,e2,e3,e4,e5,e6,kd5⟩:=aGF hc (q2+1) om om;obtain⟨x,x0,x1,kd6⟩:=CH hc q3 om om;refine⟨⟨al,nx,ac⟩,⟨al3,nx3,ac3⟩,x,b0.mono om,⟨by show nx3.length<=50;omega,by show ac3.length<=50;omega,fun r hr=>by have:=e4 r hr;have:=bQ al3;omega⟩,x0,x1,fun R L n hq k hn hL=>b6 rfl ?_ rfl (.inr rfl)⟩;have kd_e:=fun {R:Type} {hq:H} {k:KA R} {i:Nat} {L n:Nat}=> @vL L n _ _ _ _ _ _ _ rfl rfl kd5 R hq k i;have kd_f:=fun {R:Type} {hq:H} {k:KA R} {i:Nat} {L n:Nat}=> @vL L n _ _ _ _ _ _ _ rfl rfl kd6 R hq k i;clear kd5 kd6 b0 b1 b2 e4;unfold autD at kd_a kd_b kd_c kd_e|-;obtain _|n:=n;omega
  simp-implicitDefEqProofs (maxSteps:=9^7) (disch:=try exact Dz) only[↓DN,↓kAsg,↓kRet,UP,simprocAttr,↓JH,hcs,↓kd_a,↓kd_b,↓kd_c,↓kd_d,↓kd_e,↓kd_f,Bh,fU,eS,Tryz.f4]
 by_cases h1:w=1
 ·subst h1;obtain⟨x,x0,x1,kd6⟩:=CH hc (q2+1) om om;have kd_f:=fun {R:Type} {hq:H} {k:KA R} {i:Nat} {L n:Nat}=> @vL L n _ _ _ _ _ _ _ rfl rfl kd6 R hq k i
  cases hv:bX al nx ac with
  |true=>
   refine⟨⟨al,nx,ac⟩,minS ⟨al,nx,ac⟩,x,b0.mono om,(aS7 (a:=⟨al,nx,ac⟩) hv).mono om,x0,x1,fun R L n hq k hn hL=>b6 rfl ?_ rfl (.inr rfl)⟩;have kc_m:=@NA L ⟨al,nx,ac⟩ hv hL;clear kd6 b0 b1 b2;unfold autD at kd_a kd_b kd_c|-;generalize minS ⟨al,nx,ac⟩=z at *;obtain _|n:=n;omega
   simp-implicitDefEqProofs (maxSteps:=9^7) (disch:=try exact Dz) only[↓DN,↓kAsg,↓kRet,UP,simprocAttr,↓JH,hcs,↓kd_a,↓kd_b,↓kd_c,↓kd_d,↓kd_f,↓kc_m,Bh,fU,eS,Tryz.f4]
  |false=>
   refine⟨⟨al,nx,ac⟩,⟨al,nx2,ac2⟩,x,b0.mono om,b2.mono om,x0,x1,fun R L n hq k hn hL=>b6 rfl ?_ rfl (.inr rfl)⟩;have kc_m:=fun {R:Type} {n:Nat} {hq:H} {k:KA R} (hn:12<=n)=>b6 (E:=env) (h:=hq) (k:=k) rfl (IT (L:=L) hn ⟨al,nx,ac⟩ hs (by show ac.length<=_;omega) hv hL) rfl (.inr rfl);clear kd6 b0 b1 b2;unfold autD at kd_a kd_b kd_c|-;obtain _|n:=n;omega
   simp-implicitDefEqProofs (maxSteps:=9^7) (disch:=try exact Dz) only[↓DN,↓kAsg,↓kRet,UP,simprocAttr,↓JH,hcs,↓kd_a,↓kd_b,↓kd_c,↓kd_d,↓kd_f,↓kc_m,Bh,fU,eS,Tryz.f4]
 by_cases h2:w=2
 ·subst h2;obtain⟨nx3,ac3,q3,b3,r3,s3,kd5⟩:=QW hc (B:=45) om al nx ac b0 (q2+1) om om;obtain⟨x,x0,x1,kd6⟩:=CH hc q3 om om;refine⟨⟨al,nx,ac⟩,⟨al,nx3,ac3⟩,x,b0.mono om,b3.mono om,x0,x1,fun R L n hq k hn hL=>b6 rfl ?_ rfl (.inr rfl)⟩;have kd_e:=fun {R:Type} {hq:H} {k:KA R} {i:Nat} {L n:Nat}=> @vL L n _ _ _ _ _ _ _ rfl rfl kd5 R hq k i;have kd_f:=fun {R:Type} {hq:H} {k:KA R} {i:Nat} {L n:Nat}=> @vL L n _ _ _ _ _ _ _ rfl rfl kd6 R hq k i;clear kd5 kd6 b0 b1 b2 b3;unfold autD at kd_a kd_b kd_c kd_e|-;obtain _|n:=n;omega
  simp-implicitDefEqProofs (maxSteps:=9^7) (disch:=try exact Dz) only[↓DN,↓kAsg,↓kRet,UP,simprocAttr,↓JH,hcs,↓kd_a,↓kd_b,↓kd_c,↓kd_d,↓kd_e,↓kd_f,Bh,fU,eS,Tryz.f4]
 ·obtain⟨x,x0,x1,kd6⟩:=CH hc (q2+1) om om;refine⟨⟨al,nx,ac⟩,⟨al,nx2,ac2⟩,x,b0.mono om,b2.mono om,x0,x1,fun R L n hq k hn hL=>b6 rfl ?_ rfl (.inr rfl)⟩;have kd_f:=fun {R:Type} {hq:H} {k:KA R} {i:Nat} {L n:Nat}=> @vL L n _ _ _ _ _ _ _ rfl rfl kd6 R hq k i;clear kd6 b0 b1 b2;unfold autD at kd_a kd_b kd_c|-;obtain _|n:=n;omega
  simp-implicitDefEqProofs (maxSteps:=9^7) (disch:=try exact Dz) only[↓DN,↓kAsg,↓kRet,UP,simprocAttr,↓JH,hcs,↓kd_a,↓kd_b,↓kd_c,↓kd_d,↓kd_f,h0,h1,h2,Bh,fU,eS,Tryz.f4]
end Ev
end Go.Proofs.YtppffbehejpglaaGreat
