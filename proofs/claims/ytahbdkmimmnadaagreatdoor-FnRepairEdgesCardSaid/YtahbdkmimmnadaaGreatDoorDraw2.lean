/-
  Systems that run together, walked: where a letter leads.
-/
import Derived.Test.YtahbdkmimmnadaaGreatDoorPartsN
import Derived.Test.YtahbdkmimmnadaaGreatDoorSysI
import Derived.Test.YtahbdkmimmnadaaGreatDoorDistG
set_option linter.unusedSimpArgs false
set_option linter.unusedVariables false
set_option linter.unusedSectionVars false
set_option maxRecDepth 8000
set_option maxHeartbeats 4000000
namespace Go.Proofs.YtahbdkmimmnadaaGreatDoor
namespace Ev
def xG:List Mb->Int->Int->List Int->Int×Int×List Int
 | [],v,w,r=>(v,w,r)
 |m::ms,v,w,r=>xG ms (v.tdiv m.1) (w*m.1) ((m.2 (v.tmod m.1)).flatMap fun q=>r.map fun x=>q*w+x)
theorem aH1:∀(ms:List Mb) (v w:Int) (r:List Int),(xG ms v w r).2.2=AL ms v w r
 | [],_,_,_=>rfl
 |m::ms,v,w,r=>aH1 ms _ _ _
theorem aKO{P:List Sys}{j:Nat}(h:j<P.length):(P.take (j+1)).reverse=P.getD j default::(P.take j).reverse:=by
 rw[Dt,List.reverse_append,Ab,Ae h];rfl
theorem aGb{s:Sys}(h:cF s=true){l q:Int}:(choI s l q).length<=16:=by
 unfold choI
 split
 ·exact aM9 16 _ _ (NA h _) (by have:=NA h (q.toNat*6+l.toNat);omega)
 ·simp
theorem aGj{s:Sys}(h:cF s=true){l q:Int}(hl:0<=l/\l<6)(hq:0<=q/\q<s.st):∀x∈choI s l q,0<=x/\x<s.st:=fun x hx=>M5 h hq x ((aID h hl hq.1 x).1 hx)
theorem S9{r:List Int}{w:Int}:∀ts:List Int,(ts.flatMap fun q=>r.map fun x=>q*w+x).length=ts.length*r.length
 | []=>by simp
 |t::ts=>by rw[List.flatMap_cons,Ah,Aw,S9 ts,Ac,Bz];omega
theorem aMx{R:Type}{L n:Nat}(hn:3<=n)(hL:2^60<=L){P:List Sys}(hP:cP P)(hv:bR P=true){l:Int}(hl:0<=l/\l<6){o:List Int}{k:KE R}:∀(j:Nat) (i:Int) (m:Nat) (v w:Int) (r:List Int) (e len:Nat) (hi:i=(j:Int)-1) (hj:j<=P.length) (hm:j<m) (hv0:0<=v) (hv1:v<=4294967296) (hw0:0<=w) (hw1:w<=16^(P.length-j)) (hr:r.length<=16^(P.length-j)) (hx:∀x∈r,0<=x/\x<w) (he:e=eI r) (hlen:r.length=len),
  aV env (aA env L n) L 1 (W8 (W4 (W2 [2]))) Bz0 (eW 0) (U1 (Z4 (U2 (U1 (Z4 (U32 (U32 (U8 (U4 (U2 (U1 ([])))))))))))) m (Y1 (nI v::nI l::.sl 0 0 0 o.length::.ptr 1 0 0::Y2 (Y1 (.d .nils::.sl 2 0 0 len::nI w::nI i::Y32 (Y32 (Y8 (Y4 (Y2 (Y1 ([])))))))))) [.arr (ints o) 1 0,.box [.d (.ivs P.length (sysD P)),.d (.ivs P.length (mvsD P))],.arr (ints r) e 0] k
  =k (.exit 0) (Y1 (nI ((xG ((P.take j).reverse.map (sysI l)) v w r).1)::nI l::.sl 0 0 0 o.length::.ptr 1 0 0::Y2 (Y1 (.d .nils::.sl 2 0 0 (xG ((P.take j).reverse.map (sysI l)) v w r).2.2.length::nI ((xG ((P.take j).reverse.map (sysI l)) v w r).2.1)::nI (-1)::Y32 (Y32 (Y8 (Y4 (Y2 (Y1 ([])))))))))) [.arr (ints o) 1 0,.box [.d (.ivs P.length (sysD P)),.d (.ivs P.length (mvsD P))],.arr (ints (xG ((P.take j).reverse.map (sysI l)) v w r).2.2) (eI (xG ((P.take j).reverse.map (sysI l)) v w r).2.2) 0]:=by
 obtain⟨h3,_,hs⟩:=eT hv;intro j
 induction j with
 |zero=>
  intro i m v w r e len hi hj hm hv0 hv1 hw0 hw1 hr hx he hlen;obtain _|m:=m;omega;obtain rfl:i= -1:=om;subst he;subst hlen;have h0:¬(0:Int)<= -1:=om;simp only[List.take_zero,List.reverse_nil,Ak,xG]
  simp-implicitDefEqProofs (maxSteps:=9^7) (disch:=try exact Dz) only[↓DN,↓kRet,UP,simprocAttr,h0,pN,oQ,Tryz.f150]
 |succ j ih=>
  intro i m v w r e len hi hj hm hv0 hv1 hw0 hw1 hr hx he hlen;obtain _|m:=m;omega;obtain rfl:i=(j:Int):=om;subst hlen;have hk:j<P.length:=om;have hc:(j:Int)<P.length:=om;have hi0:(0:Int)<=j:=om;have g:=mY hk;have gm:=aM2 hk;have hso:=hs _ (GL hk);obtain⟨_,s1,s2,_,_⟩:=jP.1 hso
  have hr16:16^(P.length-(j+1))<=256:=by
   rcases(show P.length-(j+1)=0\/P.length-(j+1)=1\/P.length-(j+1)=2 by omega)with h|h|h<;>rw[h]<;>decide
  have hp16:(16:Int)^(P.length-(j+1))<=256:=by
   rcases(show P.length-(j+1)=0\/P.length-(j+1)=1\/P.length-(j+1)=2 by omega)with h|h|h<;>rw[h]<;>decide
  have e16:P.length-j=(P.length-(j+1))+1:=om;have eI16:(16:Int)^(P.length-j)=16^(P.length-(j+1))*16:=by rw[e16,Int.pow_succ]
  have eN16:16^(P.length-j)=16^(P.length-(j+1))*16:=by rw[e16,Nat.pow_succ]
  rw[aKO hk,Ag];simp only[xG,sysI];have hmv:∀x,mvAt (P.getD j default).es.reverse x<65536:=fun x=>NA hso x;have hcl:=fun q=>aGb hso (l:=l) (q:=q);have hcr:=fun q hq=>aGj hso (l:=l) (q:=q) hl hq;have hq0:=mB hv0 (show 0<(P.getD j default).st by omega);have hd0:0<=v.tdiv (P.getD j default).st:=Cz hv0 om;have hd1:v.tdiv (P.getD j default).st<=v:=Ec _ hv0;have hw2:0<=w*(P.getD j default).st:=Cm hw0 om;have hw3:w*(P.getD j default).st<=w*16:=Do s2 hw0
  have ih':=ih ((j:Int)-1) m (v.tdiv (P.getD j default).st) (w*(P.getD j default).st) ((choI (P.getD j default) l (v.tmod (P.getD j default).st)).flatMap fun q=>r.map fun x=>q*w+x) _ _ rfl om om hd0 om hw2 om (by
    rw[S9,eN16,Nat.mul_comm];exact Nat.mul_le_mul hr (hcl _)) (fun x hx2=>by
    obtain⟨q,hq,hx2⟩:=Du.1 hx2;obtain⟨y,hy,rfl⟩:=Bv.1 hx2;obtain⟨a0,a1⟩:=hcr _ hq0 q hq;obtain⟨b0,b1⟩:=hx y hy;have m0:=Cm a0 hw0;have m1:(q+1)*w<=(P.getD j default).st*w:=Cq om hw0;rw[Int.add_mul,Int.one_mul,Int.mul_comm (P.getD j default).st]at m1;omega) rfl rfl
  have hxw:∀x∈r,0<=x/\x<4096:=fun x hx2=>by have:=hx x hx2;omega
  have hts:∀q∈choI (P.getD j default) l (v.tmod (P.getD j default).st),0<=q/\q<16:=fun q hq=>by have:=hcr _ hq0 q hq;omega
  have htl:=hcl (v.tmod (P.getD j default).st);obtain⟨q,hq⟩:∃q:Nat,v.tmod (P.getD j default).st=q:=⟨(v.tmod (P.getD j default).st).toNat,by omega⟩
  rw[hq]at ih' hts htl hq0|-;have hqq:q*6+l.toNat<96:=om;have hq2:(q:Int)<16:=om;have hst0:¬(P.getD j default).st=0:=om;have hd3:l.toNat<=96-q*6:=om;have hd4:q*6<=96:=om;have hwr:IntKind.i64.wrap (w*(P.getD j default).st)=w*(P.getD j default).st:=dW om om;obtain⟨l0,l1⟩:=hl
  by_cases hb:dT (P.getD j default).al l=true
  ·have hch:choI (P.getD j default) l (q:Int)=memG (mvAt (P.getD j default).es.reverse (q*6+l.toNat)) (mvAt (P.getD j default).es.reverse (q*6+l.toNat)):=by
    unfold choI;rw[if_pos hb,Cd]
   have loop_c:=fun {R:Type} {n:Nat} (hn:2<=n) {v i:Int} {k:KE R}=> @aKl R L n hn hL P (P.getD j default) o r (choI (P.getD j default) l (q:Int)) e v l w i h3 om he htl om hts hxw k (choI (P.getD j default) l (q:Int)).length 0 L [] 0 1 om om rfl rfl (by simp only[Aa];omega);rw[Ay]at loop_c;simp only[Av,Am,i7]at loop_c;rw[hch]at ih' loop_c htl|-;have hmq:=hmv (q*6+l.toNat);clear ih hs hx hxw hts hcr hcl hP hv hso hr hr16 hp16 eI16 eN16;generalize(P.take j).reverse.map (sysI l)=ms at *;generalize hu:v.tdiv (P.getD j default).st=v2 at *;generalize P.getD j default=s at *
   simp-implicitDefEqProofs (maxSteps:=9^7) (disch:=try exact Dz) only[↓DN,↓kAsg,↓kRet,UP,simprocAttr,↓oG,NE,Aw,Ba,Bg,hc,hi0,g,gm,hq,hu,hwr,hb,l0,l1,hq2,FO,aIv,aNe,↓aFE,↓loop_c,↓ih',pN,oQ,Tryz.f150]
  ·rw[Bool.not_eq_true]at hb
   have hch:choI (P.getD j default) l (q:Int)=[(q:Int)]:=by
    unfold choI;rw[if_neg (by rw[hb];simp)]
   have loop_c:=fun {R:Type} {n:Nat} (hn:2<=n) {v i:Int} {k:KE R}=> @aKL R L n hn hL P (P.getD j default) o r (choI (P.getD j default) l (q:Int)) e v l w i h3 om he htl om hts hxw k (choI (P.getD j default) l (q:Int)).length 0 L [] 0 1 om om rfl rfl (by simp only[Aa];omega);rw[Ay]at loop_c;simp only[Av,Am,i7]at loop_c;rw[hch]at ih' loop_c|-;simp only[aLt,Ac,Aa,Af,Int.natCast_one]at loop_c;have ef:([(q:Int)].flatMap fun q=>r.map fun x=>q*w+x)=r.map fun x=>(q:Int)*w+x:=sm;rw[ef]at ih' loop_c|-;simp only[Aw]at ih';clear ih hs hx hxw hts hcr hcl hP hv hso hr hr16 hp16 eI16 eN16 htl;generalize(P.take j).reverse.map (sysI l)=ms at *;generalize hu:v.tdiv (P.getD j default).st=v2 at *;generalize P.getD j default=s at *
   simp-implicitDefEqProofs (maxSteps:=9^7) (disch:=try exact Dz) only[↓DN,↓kAsg,↓kRet,UP,simprocAttr,↓oG,NE,Aw,Ba,hc,hi0,g,hq,hu,hwr,hb,l0,↓loop_c,↓ih',pN,oQ,Tryz.f150]
theorem aC7:∀ {ms:List Mb} (_:∀m∈ms,∀q,(m.2 q).length<=16) {v w:Int} {r:List Int},(AL ms v w r).length<=16^ms.length*r.length
 | [],_,v,w,r=>by simp[AL]
 |m::ms,h,v,w,r=>by
  rw[AL];refine Bf (aC7 fun m hm=>h m (Bi _ hm)) ?_;rw[S9,Ac,Nat.pow_succ,Nat.mul_assoc];exact Nat.mul_le_mul_left _ (Nat.mul_le_mul_right _ (h m Bl _))
theorem aBx{P:List Sys}{l v:Int}(h3:P.length<=3)(hs:∀s∈P,cF s=true):(pnx (P.reverse.map (sysI l)) v).length<=4096:=by
 have h:=aC7 (ms:=P.reverse.map (sysI l)) (fun m hm q=>by
  obtain⟨s,hs2,rfl⟩:=Bv.1 hm;exact aGb (hs s (Dn.1 hs2))) (v:=v) (w:=1) (r:=[0])
 rw[Aw,List.length_reverse,Bu,By]at h;refine Bf h ?_
 rcases(show P.length=0\/P.length=1\/P.length=2\/P.length=3 by omega)with h|h|h|h<;>rw[h]<;>decide
theorem aBo{L n:Nat}(hn:4<=n)(hL:2^60<=L){P:List Sys}(hP:cP P)(hv:bR P=true){v l:Int}(hl:0<=l/\l<6)(hv0:0<=v)(hv1:v<=4294967296)(o:List Int)(ho:o.length<=4200000000):
  aA env L n 150 [.agg [.d (.ivs P.length (sysD P)),.d (.ivs P.length (mvsD P))],nI v,nI l,.sl 0 0 0 o.length] [.arr (ints o) 1 0]=some (.sl 0 1 0 (o++pnx (P.reverse.map (sysI l)) v).length,[.arr (ints (o++pnx (P.reverse.map (sysI l)) v)) 1 1]):=by
 obtain⟨h3,h1,hs⟩:=eT hv;have loop_a:=fun {R n k} hn=> @aMx R L n hn hL P hP hv l hl o k P.length ((P.length:Int)-1) L v 1 [0] 1 1 rfl (Ad _) om hv0 hv1 om sm sm sm rfl rfl;have hw:=aBx (l:=l) (v:=v) h3 hs;simp only[Cv,aH1,aLt]at loop_a;have e:AL (P.reverse.map (sysI l)) v 1 [0]=pnx (P.reverse.map (sysI l)) v:=rfl;rw[e]at loop_a;clear hv hs hP e;generalize pnx (P.reverse.map (sysI l)) v=w at *;generalize(xG (P.reverse.map (sysI l)) v 1 [0]).1=v9 at *;generalize(xG (P.reverse.map (sysI l)) v 1 [0]).2.1=w9 at *;obtain _|n:=n;omega
 simp-implicitDefEqProofs (maxSteps:=9^7) (disch:=try exact Dz) only[↓DN,↓kAsg,↓kRet,UP,simprocAttr,↓loop_a,aAR,LF,Tryz.f150];simp only[ints,Dk]
section
variable{R:Type}{L n:Nat}
def tabD(t:List (List (List Int))):List D:=t.map fun r=>.ivs r.length (aN r)
theorem aMN:tabD []=[]:=rfl
theorem J7{l:List (List (List Int))}:(tabD l).length=l.length:=by simp[tabD]
theorem YB{l:List (List (List Int))}{k:Nat}(h:l.length<=k):(tabD l).take k=tabD l:=Bx (by rw[J7];exact h)
theorem aFF{l:List (List (List Int))}{k:Nat}(h:k<l.length):(((tabD l).drop k).map A.d).head? =some (.d (.ivs (l.getD k []).length (aN (l.getD k [])))):=by
 rw[Dm,Cs,tabD,Bc,Ab,Ae h];rfl
theorem aM8{l:List (List (List Int))}{r:List (List Int)}{z:Nat}(h:z=r.length):tabD l++[.ivs z (aN r)]=tabD (l++[r]):=by
 subst h;simp[tabD]
theorem TE:type_of% (AI @J7 (AI @YB @aFF)):=
 ⟨@J7,@YB,@aFF⟩
theorem WO(hn:8<=n)(hL:2^60<=L){c1 c2 c3 c4 c5 c6:D}{zs ss ls:List Int}{nx:Int->List Int}{out:List (List (List Int))}{tt v:Int}{ol:Nat}(hll:ls.length<=1000)(hzl:zs.length<=4000)(hsl:ss.length<=4000)(hol:out.length<=4294967290)
  (kc_x:∀(l:Int),l∈ls->∀ {R:Type} {n:Nat} {hq:H} {k:KA R},7<=n->aU env (aA env L n) hq 212 [.agg [.d c1,.d c2,.d c3,.d c4,.d c5,.d c6],.d (.ivs zs.length (ints zs)),.d (.ivs ss.length (ints ss)),nI l] k=k (.d (.ivs (nx l).length (ints (nx l)))) hq)
  {k:KE R}:∀(j p m:Nat) (o:List (List Int)) (len:Nat) (hp:p+j=ls.length) (hm:j<m) (hlen:len=o.length) (ho:o.length+j<=4000),
  aV env (aA env L n) L 0 [] Bz16 (qO 1) (U1 (Z2 (Z1 (U2 (Z4 (Z2 (Z1 (U32 (U2 (U1 ([]))))))))))) m (Y1 (.d (.ivs zs.length (ints zs))::nI tt::.ptr 0 0 0::Y2 (.d .nils::.sl 1 0 0 ol::.d (.ivs ls.length (ints ls))::nI v::.d (.ivs ss.length (ints ss))::.sl 2 0 0 len::nI p::Y32 (Y2 (Y1 ([])))))) [.box [.d c1,.d c2,.d c3,.d c4,.d c5,.d c6],.arr (tabD out) 1 0,.arr (aN o) 1 0] k
  =k (.exit 2) (Y1 (.d (.ivs zs.length (ints zs))::nI tt::.ptr 0 0 0::Y2 (.d .nils::.sl 1 0 0 ol::.d (.ivs ls.length (ints ls))::nI v::.d (.ivs ss.length (ints ss))::.sl 2 0 0 (o++(ls.drop p).map nx).length::nI (ls.length)::Y32 (Y2 (Y1 ([])))))) [.box [.d c1,.d c2,.d c3,.d c4,.d c5,.d c6],.arr (tabD out) 1 0,.arr (aN (o++(ls.drop p).map nx)) 1 0]:=by
 intro j
 induction j with
 |zero=>
  intro p m o len hp hm hlen ho;obtain _|m:=m;omega;obtain rfl:p=ls.length:=om;subst hlen
  simp-implicitDefEqProofs (maxSteps:=9^7) (disch:=try exact Dz) only[↓DN,↓kRet,UP,simprocAttr,Al,FR,CF,Tryz.f155];simp
 |succ j ih=>
  intro p m o len hp hm hlen ho;obtain _|m:=m;omega;subst hlen;have hk:p<ls.length:=om;have hc:(p:Int)<ls.length:=om;have hp0:(0:Int)<=p:=om;have kc_y:=fun {R:Type} {n:Nat} {hq:H} {k:KA R} (hn:7<=n)=>kc_x _ (fV hk) (R:=R) (n:=n) (hq:=hq) (k:=k) hn;have ih':=ih (p+1) m (o++[nx (ls.getD p 0)]) (o.length+1) om om sm (by rw[Ah,Bu];omega);rw[cs1 p]at ih';rw[bM hk (d:=0),Ag];simp only[Ao,At,Am]at ih';clear ih kc_x;generalize nx (ls.getD p 0)=w at *
  simp-implicitDefEqProofs (maxSteps:=9^7) (disch:=try exact Dz) only[↓DN,↓kRet,UP,simprocAttr,LA,hc,hp0,↓kc_y,aKI,↓ih',FR,CF,Tryz.f155]
theorem X6(hn:8<=n)(hL:2^60<=L){c1 c2 c3 c4 c5 c6:D}{zs ls:List Int}{nx:Int->Int->List Int}{tt:Nat}(hll:ls.length<=1000)(hzl:zs.length<=1000)(htt:tt<=65536)(hzp:∀z∈zs,0<z/\z<=65536)
  (kc_x:∀(v:Nat) (l:Int),v<tt->l∈ls->∀ {R:Type} {n:Nat} {hq:H} {k:KA R},7<=n->aU env (aA env L n) hq 212 [.agg [.d c1,.d c2,.d c3,.d c4,.d c5,.d c6],.d (.ivs zs.length (ints zs)),.d (.ivs zs.length (ints (decN zs v))),nI l] k=k (.d (.ivs (nx v l).length (ints (nx v l)))) hq)
  {k:KE R}:∀(j v m:Nat) (o:List (List (List Int))) (len:Nat) (hp:v+j=tt) (hm:j<m) (hlen:len=o.length) (ho:o.length=v),
  aV env (aA env L n) L 0 [] Bz16 (qO 0) (U1 (Z2 (Z1 (U2 (Z4 (U32 (U4 (U2 ([]))))))))) m (Y1 (.d (.ivs zs.length (ints zs))::nI tt::.ptr 0 0 0::Y2 (.d .nils::.sl 1 0 0 len::.d (.ivs ls.length (ints ls))::nI v::Y32 (Y4 (Y2 ([])))))) [.box [.d c1,.d c2,.d c3,.d c4,.d c5,.d c6],.arr (tabD o) 1 0] k
  =k (.exit 0) (Y1 (.d (.ivs zs.length (ints zs))::nI tt::.ptr 0 0 0::Y2 (.d .nils::.sl 1 0 0 (o++(List.range' v j).map fun(x:Nat)=>ls.map (nx x)).length::.d (.ivs ls.length (ints ls))::nI tt::Y32 (Y4 (Y2 ([])))))) [.box [.d c1,.d c2,.d c3,.d c4,.d c5,.d c6],.arr (tabD (o++(List.range' v j).map fun(x:Nat)=>ls.map (nx x))) 1 0]:=by
 intro j
 induction j with
 |zero=>
  intro v m o len hp hm hlen ho;obtain _|m:=m;omega;obtain rfl:v=tt:=om;subst hlen
  simp-implicitDefEqProofs (maxSteps:=9^7) (disch:=try exact Dz) only[↓DN,↓kRet,UP,simprocAttr,Al,F4,B0,Tryz.f155]
  all_goals simp
 |succ j ih=>
  intro v m o len hp hm hlen ho;obtain _|m:=m;omega;subst hlen;have hc:(v:Int)<tt:=om;have hv0:(0:Int)<=v:=om;have hdl:=zH zs v;have kc_d:=@OJ L zs v hzp hzl hv0 om hL;have loop_c:=fun {R n k} hn=> @WO R L n hn hL c1 c2 c3 c4 c5 c6 zs (decN zs v) ls (nx v) o tt v o.length hll om om om (fun l hl {R n hq k} hn=>by rw[hdl];exact kc_x v l om hl hn) k ls.length 0 L [] 0 om om rfl (by simp;omega);simp only[Ay,Av,Am,aKZ,hdl]at loop_c;have ih':=ih (v+1) m (o++[ls.map (nx v)]) (o.length+1) om om sm (by simp;omega);rw[cs1 v]at ih';rw[Dq,Ag];simp only[Ao,At,Am]at ih';clear ih kc_x;have hwl:(ls.map (nx v)).length=ls.length:=sm;generalize ls.map (nx v)=w at *;generalize decN zs v=ss at *
  simp-implicitDefEqProofs (maxSteps:=9^7) (disch:=try exact Dz) only[↓DN,↓kAsg,↓kRet,UP,simprocAttr,TE,LA,hc,↓kc_d,↓loop_c,aM8,↓ih',F4,B0,Tryz.f155]
theorem aEU(hn:9<=n)(hL:2^60<=L){n1 n2 n3:Nat}{d1 d2 d3:List D}{kd go:Int}{zs:List Int}{al:Int}{nx:Int->Int->List Int}{tt:Nat}(hzl:zs.length<=1000)(htt:tt<=65536)(hzp:∀z∈zs,0<z/\z<=65536)
  (kc_x:∀(v:Nat) (l:Int),v<tt->l∈aG al->∀ {R:Type} {n:Nat} {hq:H} {k:KA R},7<=n->aU env (aA env L n) hq 212 [.agg [.d (.ivs n1 d1),.d (.ivs n2 d2),.d (.ivs n3 d3),nI al,nI kd,nI go],.d (.ivs zs.length (ints zs)),.d (.ivs zs.length (ints (decN zs v))),nI l] k=k (.d (.ivs (nx v l).length (ints (nx v l)))) hq):
  aA env L n 155 [.agg [.d (.ivs n1 d1),.d (.ivs n2 d2),.d (.ivs n3 d3),nI al,nI kd,nI go],.d (.ivs zs.length (ints zs)),nI tt] []=some (.d (.ivs tt (tabD ((List.range tt).map fun(x:Nat)=>(aG al).map (nx x)))),[]):=by
 have hll:(aG al).length<=1000:=by have:=dF al;omega
 have loop_c:=fun {R n k} hn=> @X6 R L n hn hL (.ivs n1 d1) (.ivs n2 d2) (.ivs n3 d3) (.int .i64 al) (.int .i64 kd) (.int .i64 go) zs (aG al) nx tt hll hzl htt hzp kc_x k tt 0 L [] 0 om om rfl rfl;simp only[Av,Am,aMN,<-List.range_eq_range']at loop_c;have hwl:((List.range tt).map fun(x:Nat)=>(aG al).map (nx x)).length=tt:=sm;generalize(List.range tt).map (fun(x:Nat)=>(aG al).map (nx x))=w at *;have e4:(tabD w).take tt=tabD w:=YB om;clear kc_x hzp;obtain _|n:=n;omega
 simp-implicitDefEqProofs (maxSteps:=9^7) (disch:=try exact Dz) only[↓DN,↓kAsg,↓kRet,UP,simprocAttr,↓bX,TE,↓loop_c,e4,hwl,aGM,VR,Tryz.f155]
end
section
variable{R:Type}{L n:Nat}
def AJ(tab:List (List (List Int)))(aL:Nat):Prop:=tab.length=aL/\∀i,i<aL->(tab.getD i []).length<=1000/\∀r∈tab.getD i [],r.length<=4294967290/\∀x∈r,0<=x/\x<aL
theorem ZZ(hn:3<=n)(hL:2^60<=L){tab:List (List (List Int))}{aL:Nat}{d:Int}(ht:AJ tab aL)(htt:aL<=65536)(hd:1<=d)(hd2:d<=4294967296){k:KE R}:∀(j i m:Nat) (q:List Int) (b:Bool) (len:Nat) (hi:i+j=aL) (hm:j<m) (hq:q.length=aL) (hlen:len=aL),
  aV env (aA env L n) L 1 [] Bz20 (pL 1) (Z2 (U2 (Z2 (Z1 (U16 (U8 (U4 ([])))))))) m (.d (.ivs tab.length (tabD tab))::.sl 0 0 0 len::Y2 (.d (.bool b)::nI d::nI i::Y16 (Y8 (Y4 ([]))))) [.arr (ints q) 1 0] k
  =k (.exit 2) (.d (.ivs tab.length (tabD tab))::.sl 0 0 0 len::Y2 (.d (.bool (((dS tab d j i (q,b)).2)))::nI d::nI aL::Y16 (Y8 (Y4 ([]))))) [.arr (ints (dS tab d j i (q,b)).1) 1 0]:=by
 obtain⟨tl,ht⟩:=ht;intro j
 induction j with
 |zero=>
  intro i m q b len hi hm hq hlen;obtain _|m:=m;omega;obtain rfl:i=aL:=om;subst hlen
  simp-implicitDefEqProofs (maxSteps:=9^7) (disch:=try exact Dz) only[↓DN,↓kRet,UP,simprocAttr,Al,qC,rJ,Tryz.f158]<;>rfl
 |succ j ih=>
  intro i m q b len hi hm hq hlen;obtain _|m:=m;omega;subst hlen;have hk:i<q.length:=om;have hkt:i<tab.length:=om;have hc:(i:Int)<len:=om;have hi0:(0:Int)<=i:=om;obtain⟨t1,t2⟩:=ht i om;have kl_n:=@aHI L (tab.getD i []) q (d-1) om (by rw[hq];exact t2) om hL;rw[hq]at kl_n;simp only[dS]
  by_cases h1:q.getD i 0<0
  ·by_cases h2:JI (tab.getD i []) q (d-1)=true
   ·have ih':=ih (i+1) m (q.set i d) true len om om (by simpa using hq) rfl;rw[cs1 i]at ih';rw[if_pos ⟨h1,h2⟩];clear ih;rw[h2]at kl_n
    simp-implicitDefEqProofs (maxSteps:=9^7) (disch:=try exact Dz) only[↓DN,↓kAsg,↓kRet,UP,simprocAttr,↓OZ,TE,hc,hi0,h1,↓kl_n,↓EM,↓ih',qC,rJ,Tryz.f158]
   ·have ih':=ih (i+1) m q b len om om hq rfl;rw[cs1 i]at ih';rw[if_neg fun h=>h2 h.2];clear ih;rw[Bool.not_eq_true]at h2;rw[h2]at kl_n
    simp-implicitDefEqProofs (maxSteps:=9^7) (disch:=try exact Dz) only[↓DN,↓kRet,UP,simprocAttr,↓OZ,TE,hc,hi0,h1,↓kl_n,↓ih',qC,rJ,Tryz.f158]
  ·have ih':=ih (i+1) m q b len om om hq rfl;rw[cs1 i]at ih';rw[if_neg fun h=>h1 h.1];clear ih kl_n
   simp-implicitDefEqProofs (maxSteps:=9^7) (disch:=try exact Dz) only[↓DN,↓kRet,UP,simprocAttr,hc,hi0,h1,↓ih',qC,rJ,Tryz.f158]
def dEnd(tab:List (List (List Int))):Nat->Int->List Int->Int
 |0,d,_=>d
 |j+1,d,dist=>if(dS tab d dist.length 0 (dist,false)).2=true then dEnd tab j (d+1) (dS tab d dist.length 0 (dist,false)).1 else d+1
theorem J5{tab:List (List (List Int))}{d:Int}:∀(j i:Nat) (q:List Int×Bool),(dS tab d j i q).1.length=q.1.length
 |0,_,q=>rfl
 |j+1,i,q=>by
  simp only[dS]
  split
  ·rw[J5 j];simp
  ·exact J5 j _ q
theorem aBm{R:Type}{L n m tt len:Nat}{tab:List (List (List Int))}{d:Int}{h:List Int}{k:KE R}:
  aV env (aA env L n) L 1 [] Bz20 (pL 0) Bz55 (m+1) (.d (.ivs tt (tabD tab))::.sl 0 0 0 len::Y2 (.d (.bool false)::nI d::Y16 (Y8 (Y4 (Y1 ([])))))) [.arr (ints h) 1 0] k
  =k (.exit 0) (.d (.ivs tt (tabD tab))::.sl 0 0 0 len::Y2 (.d (.bool false)::nI d::Y16 (Y8 (Y4 (Y1 ([])))))) [.arr (ints h) 1 0]:=by
 simp-implicitDefEqProofs (maxSteps:=9^7) (disch:=try exact Dz) only[↓DN,UP,simprocAttr,xO,x5,Tryz.f158]
theorem aBj(hn:3<=n)(hL:2^60<=L){tab:List (List (List Int))}{aL:Nat}(ht:AJ tab aL)(htt:aL<=65536){k:KE R}:∀(j:Nat) (d:Int) (m:Nat) (q:List Int) (len:Nat) (hc:q.countP (·<0)<j) (hm:j<m) (hd:1<=d) (hd2:d+j<=4294967296) (hq:q.length=aL) (hlen:len=aL),
  aV env (aA env L n) L 1 [] Bz20 (pL 0) Bz55 m (.d (.ivs tab.length (tabD tab))::.sl 0 0 0 len::Y2 (.d (.bool true)::nI d::Y16 (Y8 (Y4 (Y1 ([])))))) [.arr (ints q) 1 0] k
  =k (.exit 0) (.d (.ivs tab.length (tabD tab))::.sl 0 0 0 len::Y2 (.d (.bool false)::nI (dEnd tab j d q)::Y16 (Y8 (Y4 (Y1 ([])))))) [.arr (ints (dL tab j d q)) 1 0]:=by
 intro j
 induction j with
 |zero=>intro d m q len hc;omega
 |succ j ih=>
  intro d m q len hc hm hd hd2 hq hlen;obtain _|m:=m;omega;subst hlen;have loop_c:=fun {R n k} hn=> @ZZ R L n hn hL tab len d ht htt hd om k len 0 L q false len om om hq rfl;simp only[Av]at loop_c;have hcnt:=TW (tab:=tab) (d:=d) om len 0 (q,false) (by simp;omega);have hlen2:=J5 (tab:=tab) (d:=d) len 0 (q,false);simp only[dL,dEnd,hq];generalize dS tab d len 0 (q,false)=r at *;obtain⟨r0,r1⟩:=r;simp only at loop_c hcnt hlen2|-
  cases r1 with
  |true=>
   have hlt:r0.countP (·<0)<q.countP (·<0):=by
    rcases hcnt.2 rfl with h|h
    ·cases h
    ·exact h
   have ih':=ih (d+1) m r0 len om om om om om rfl;simp only[if_true];clear ih hcnt
   simp-implicitDefEqProofs (maxSteps:=9^7) (disch:=try exact Dz) only[↓DN,↓kAsg,↓kRet,UP,simprocAttr,↓loop_c,↓ih',xO,x5,Tryz.f158]
  |false=>
   simp only[Aj,if_false];clear ih hcnt;obtain _|m:=m;omega;have loop_e:=fun {d:Int} {h:List Int}=> @aBm R L n m tab.length len tab d h k
   simp-implicitDefEqProofs (maxSteps:=9^7) (disch:=try exact Dz) only[↓DN,↓kAsg,↓kRet,UP,simprocAttr,↓loop_c,↓loop_e,xO,x5,Tryz.f158]
theorem aHX(hn:4<=n)(hL:2^60<=L){tab:List (List (List Int))}{aL:Nat}(ht:AJ tab aL)(htt:aL<=65536)(dist:List Int)(hd:dist.length=aL):
  aA env L n 158 [.d (.ivs tab.length (tabD tab)),.sl 0 0 0 dist.length] [.arr (ints dist) 1 0]=some (.tup [],[.arr (ints (dL tab (aL+1) 1 dist)) 1 0]):=by
 have hcl:dist.countP (·<0)<aL+1:=by have:=List.countP_le_length (p:=(·<0)) (l:=dist);omega
 have loop_c:=fun {R n k} hn=> @aBj R L n hn hL tab aL ht htt k (aL+1) 1 L dist aL hcl om om om hd rfl;rw[hd];generalize dL tab (aL+1) 1 dist=w at *;obtain _|n:=n;omega
 simp-implicitDefEqProofs (maxSteps:=9^7) (disch:=try exact Dz) only[↓DN,↓kAsg,UP,simprocAttr,↓loop_c,aHb,ZQ,Tryz.f158]
theorem UK(hn:3<=n)(hL:2^60<=L){tab:List (List (List Int))}{dist at_ list:List Int}{d kk:Int}{ii:Nat}(hdl:dist.length<=65536)(hll:list.length<=4294967290)(hr:∀x∈list,0<=x/\x<dist.length){k:KE R}:∀(j p m:Nat) (o:List Int) (len:Nat) (hp:p+j=list.length) (hm:j<m) (hlen:len=o.length) (ho:o.length+j<=4294967290),
  aV env (aA env L n) L 0 [] Bz23 (o8 1) (Z4 (Z1 (U4 (U1 (Z4 (Z1 (U32 (U16 (U1 ([])))))))))) m (.d (.ivs tab.length (tabD tab))::.d (.ivs dist.length (ints dist))::.d (.ivs at_.length (ints at_))::nI kk::nI d::Y4 (Y1 (.d .nils::.sl 0 0 0 len::nI ii::.d (.ivs list.length (ints list))::nI p::Y32 (Y16 (Y1 ([])))))) [.arr (ints o) 1 0] k
  =k (.exit 2) (.d (.ivs tab.length (tabD tab))::.d (.ivs dist.length (ints dist))::.d (.ivs at_.length (ints at_))::nI kk::nI d::Y4 (Y1 (.d .nils::.sl 0 0 0 (addC dist d (list.drop p) o).length::nI ii::.d (.ivs list.length (ints list))::nI (list.length)::Y32 (Y16 (Y1 ([])))))) [.arr (ints (addC dist d (list.drop p) o)) 1 0]:=by
 intro j
 induction j with
 |zero=>
  intro p m o len hp hm hlen ho;obtain _|m:=m;omega;obtain rfl:p=list.length:=om;subst hlen
  simp-implicitDefEqProofs (maxSteps:=9^7) (disch:=try exact Dz) only[↓DN,↓kRet,UP,simprocAttr,Al,mP,nH,Tryz.f160];simp[addC]
 |succ j ih=>
  intro p m o len hp hm hlen ho;obtain _|m:=m;omega;subst hlen;have hk:p<list.length:=om;have hc:(p:Int)<list.length:=om;have hp0:(0:Int)<=p:=om;obtain⟨r0,r1⟩:=hr _ (fV hk);have hk2:(list.getD p 0).toNat<dist.length:=om;rw[bM hk (d:=0)];simp only[addC]
  by_cases h1:dist.getD (list.getD p 0).toNat 0=d
  ·have kl_i:=@aKF L o (list.getD p 0) om hL
   by_cases h2:list.getD p 0∈o
   ·have ih':=ih (p+1) m o o.length om om rfl om;rw[cs1 p]at ih';rw[if_neg fun h=>h.2 h2];clear ih;rw[decide_eq_true h2]at kl_i
    simp-implicitDefEqProofs (maxSteps:=9^7) (disch:=try exact Dz) only[↓DN,↓kRet,UP,simprocAttr,↓VM,hc,hp0,h1,↓kl_i,r0,r1,↓ih',mP,nH,Tryz.f160]
   ·have ih':=ih (p+1) m (o++[list.getD p 0]) (o.length+1) om om sm (by rw[Ah,Bu];omega);rw[cs1 p]at ih';rw[if_pos ⟨h1,h2⟩];clear ih;rw[decide_eq_false h2]at kl_i
    simp-implicitDefEqProofs (maxSteps:=9^7) (disch:=try exact Dz) only[↓DN,↓kRet,UP,simprocAttr,↓VM,hc,hp0,h1,↓kl_i,r0,r1,↓ih',mP,nH,Tryz.f160]
  ·have ih':=ih (p+1) m o o.length om om rfl om;rw[cs1 p]at ih';rw[if_neg fun h=>h1 h.1];clear ih
   simp-implicitDefEqProofs (maxSteps:=9^7) (disch:=try exact Dz) only[↓DN,↓kRet,UP,simprocAttr,hc,hp0,h1,r0,r1,↓ih',mP,nH,Tryz.f160]
theorem XJ{dist:List Int}{d:Int}:∀(ms out:List Int),(addC dist d ms out).length<=out.length+ms.length
 | [],out=>by simp[addC]
 |m::ms,out=>by
  unfold addC
  split
  ·have:=XJ (dist:=dist) (d:=d) ms (out++[m]);simp at this|-;omega
  ·have:=XJ (dist:=dist) (d:=d) ms out;simp at this|-;omega
theorem UE(hn:3<=n)(hL:2^60<=L){tab:List (List (List Int))}{dist at_:List Int}{d:Int}{kk aL:Nat}(ht:AJ tab aL)(hd:dist.length=aL)(htt:aL<=65536)(hat:at_.length<=65536)(har:∀x∈at_,0<=x/\x<aL)(hkk:∀i,i<aL->kk<(tab.getD i []).length/\((tab.getD i []).getD kk []).length<=4096){k:KE R}:∀(j i m:Nat) (o:List Int) (len:Nat) (hp:i+j=at_.length) (hm:j<m) (hlen:len=o.length) (ho:o.length+j*4096<=2147483648),
  aV env (aA env L n) L 0 [] Bz23 (o8 0) (Z4 (Z1 (U4 (U1 (Z2 (Z1 (U32 (U16 (U2 (U1 ([]))))))))))) m (.d (.ivs tab.length (tabD tab))::.d (.ivs dist.length (ints dist))::.d (.ivs at_.length (ints at_))::nI kk::nI d::Y4 (Y1 (.d .nils::.sl 0 0 0 len::nI i::Y32 (Y16 (Y2 (Y1 ([]))))))) [.arr (ints o) 1 0] k
  =k (.exit 0) (.d (.ivs tab.length (tabD tab))::.d (.ivs dist.length (ints dist))::.d (.ivs at_.length (ints at_))::nI kk::nI d::Y4 (Y1 (.d .nils::.sl 0 0 0 (bB tab dist kk d (at_.drop i) o).length::nI (at_.length)::Y32 (Y16 (Y2 (Y1 ([]))))))) [.arr (ints (bB tab dist kk d (at_.drop i) o)) 1 0]:=by
 obtain⟨tl,ht⟩:=ht;intro j
 induction j with
 |zero=>
  intro i m o len hp hm hlen ho;obtain _|m:=m;omega;obtain rfl:i=at_.length:=om;subst hlen
  simp-implicitDefEqProofs (maxSteps:=9^7) (disch:=try exact Dz) only[↓DN,↓kRet,UP,simprocAttr,Al,CW,z8,Tryz.f160];simp[bB]
 |succ j ih=>
  intro i m o len hp hm hlen ho;obtain _|m:=m;omega;subst hlen;have hk:i<at_.length:=om;have hc:(i:Int)<at_.length:=om;have hi0:(0:Int)<=i:=om;obtain⟨r0,r1⟩:=har _ (fV hk);have hk2:(at_.getD i 0).toNat<tab.length:=om;have hc2:at_.getD i 0<tab.length:=om;obtain⟨q1,q2⟩:=hkk (at_.getD i 0).toNat om;obtain⟨t1,t2⟩:=ht (at_.getD i 0).toNat om;have hc3:(kk:Int)<(tab.getD (at_.getD i 0).toNat []).length:=om;have hkk0:(0:Int)<=kk:=om
  have t3:=t2 ((tab.getD (at_.getD i 0).toNat []).getD kk []) (by
   rw[Ab (l:=tab.getD (at_.getD i 0).toNat []),Ae q1];exact Bd q1)
  rw[bM hk (d:=0)];simp only[bB];generalize hrow:tab.getD (at_.getD i 0).toNat []=row at *;generalize hli:row.getD kk []=li at *;rw[Nat.succ_mul]at ho;have loop_c:=fun {R n k} hn=> @UK R L n hn hL tab dist at_ li d kk i om om (by rw[hd];exact t3.2) k li.length 0 L o o.length om om rfl om;simp only[Ay,Av]at loop_c;have hal:=XJ (dist:=dist) (d:=d) li o;have ih':=ih (i+1) m (addC dist d li o) _ om om rfl om;rw[cs1 i]at ih';clear ih hkk ht t2 t3;generalize addC dist d li o=w at *
  simp-implicitDefEqProofs (maxSteps:=9^7) (disch:=try exact Dz) only[↓DN,↓kAsg,↓kRet,UP,simprocAttr,TE,LA,hc,hi0,hc2,r0,hc3,hkk0,hrow,hli,↓loop_c,↓ih',CW,z8,Tryz.f160]
theorem uH(hn:4<=n)(hL:2^60<=L){tab:List (List (List Int))}{dist at_:List Int}{d:Int}{kk aL:Nat}(ht:AJ tab aL)(hd:dist.length=aL)(htt:aL<=65536)(hat:at_.length<=65536)(har:∀x∈at_,0<=x/\x<aL)(hkk:∀i,i<aL->kk<(tab.getD i []).length/\((tab.getD i []).getD kk []).length<=4096):
  aA env L n 160 [.d (.ivs tab.length (tabD tab)),.d (.ivs dist.length (ints dist)),.d (.ivs at_.length (ints at_)),nI kk,nI d] []=some (.d (.ivs (bB tab dist kk d at_ []).length (ints (bB tab dist kk d at_ []))),[]):=by
 have loop_c:=fun {R n k} hn=> @UE R L n hn hL tab dist at_ d kk aL ht hd htt hat har hkk k at_.length 0 L [] 0 om om rfl (by simp;omega);simp only[Ay,Av,i7]at loop_c;generalize bB tab dist kk d at_ []=w at *;have e4:(ints w).take w.length=ints w:=fJ (Ad _);clear hkk har ht;obtain _|n:=n;omega
 simp-implicitDefEqProofs (maxSteps:=9^7) (disch:=try exact Dz) only[↓DN,↓kAsg,↓kRet,UP,simprocAttr,↓loop_c,e4,aDZ,P7,Tryz.f160]
end
theorem aS{R:Type}{call:aW}{h:H}{f:FuncId}{args:List A}{c:List UInt8}{p q:Int}{r:A}{k:KA R}(hm:(env.hint f).mode=0)(ha:idsL args=[])(hr:idsA r=[])(he:call f (.ptr 0 0 0::args) [rdO c p]=some (r,[rdO c q])):
  aU env call (rdO c p::h) f (.ptr 0 0 0::args) k=k r (rdO c q::h):=by
 have hid:idsL (A.ptr 0 0 0::args)=[0]:=by simp[idsL,idsA,ha]
 have hre:aC aD (rdO c p::h) [0] []=[0]:=rfl;have hpk:pack (rdO c p::h) [0]=[rdO c p]:=rfl
 have hma:aE (aH [0]) (A.ptr 0 0 0::args)=A.ptr 0 0 0::args:=by
  simp only[aE,gG _ ha];rfl
 unfold aU;rw[hid,hre,hpk,hma]
 have hc:bJ call env.hint [rdO c p] f (.ptr 0 0 0::args)=some (r,[rdO c q]):=by
  unfold bJ;rw[hm];exact he
 rw[hc];have hcl:closed (rdO c p::h) [0] [0]=true:=rfl;simp only[Ac,Aa,Ad,hcl,and_self,if_true,nL r hr]
 congr 1
 simp[bA,mapO,aE,mapA]
theorem aAW:(env.hint 72).mode=0:=kr
theorem aJi{a b:Int}(ha:0<=a)(ha2:a<2^62)(hb:0<=b)(hb2:b<2^62):0<=iXor .i64 a b/\iXor .i64 a b<2^62:=by
 obtain⟨m,rfl⟩:=Db ha;obtain⟨n,rfl⟩:=Db hb;have hm:m<2^62:=om;have hn:n<2^62:=om
 have hx:(BitVec.ofInt 64 (m:Int)^^^BitVec.ofInt 64 (n:Int)).toNat=m^^^n:=by
  rw[BitVec.toNat_xor]
  congr 1<;>(simp only[BitVec.ofInt_natCast,BitVec.toNat_ofNat];omega)
 have hlt:m^^^n<2^62:=Nat.xor_lt_two_pow hm hn;unfold iXor;have:(BitVec.ofInt IntKind.i64.bits (m:Int)^^^BitVec.ofInt IntKind.i64.bits (n:Int)).toNat=m^^^n:=hx;rw[this,dW om om];omega
theorem bN{c:List UInt8}(hc:c.length<=2000)(p b:Int)(hp:0<=p)(hp2:p<=1000000000):∃v:Int,0<=v/\(1<=b->v<b)/\(b<1->v=0)/\(Dw 1 72 [nI b] (nI v) c p (p+1)):=by
 by_cases h1:b<1
 ·refine⟨0,by omega,by omega,by omega,fun R L n hq k hn hL=>aS aAW rfl rfl ?_⟩;obtain _|n:=n;omega
  simp-implicitDefEqProofs (maxSteps:=9^7) (disch:=try exact Dz) only[↓DN,↓kAsg,↓kRet,UP,simprocAttr,h1,pY,mX,Tryz.f72]
 ·by_cases h2:c.length=0
  ·refine⟨0,by omega,by omega,by omega,fun R L n hq k hn hL=>aS aAW rfl rfl ?_⟩;have h2':(c.length:Int)=0:=om;obtain _|n:=n;omega
   simp-implicitDefEqProofs (maxSteps:=9^7) (disch:=try exact Dz) only[↓DN,↓kAsg,↓kRet,UP,simprocAttr,h1,h2',pY,mX,Tryz.f72]
  ·have h2':¬(c.length:Int)=0:=om
   by_cases h3:p<c.length
   ·have hb:b≠0:=om;have t0:0<=((c.getD p.toNat 0).toNat:Int).tmod b:=Int.tmod_nonneg b om;have t1:((c.getD p.toNat 0).toNat:Int).tmod b<b:=Int.tmod_lt_of_pos _ om;refine⟨((c.getD p.toNat 0).toNat:Int).tmod b,t0,fun _=>t1,by omega,fun R L n hq k hn hL=>aS aAW rfl rfl ?_⟩;have e1:p+1-1=p:=om;obtain _|n:=n;omega
    simp-implicitDefEqProofs (maxSteps:=9^7) (disch:=try exact Dz) only[↓DN,↓kAsg,↓kRet,UP,simprocAttr,h1,h2',e1,h3,pY,mX,Tryz.f72]
   ·have e1:p+1-1=p:=om;have hl1:(0:Int)<c.length:=om;have q1:0<=p.tmod c.length:=Int.tmod_nonneg _ hp;have q2:p.tmod c.length<c.length:=Int.tmod_lt_of_pos _ hl1;have q3:0<=(p*7+3).tmod c.length:=Int.tmod_nonneg _ om;have q4:(p*7+3).tmod c.length<c.length:=Int.tmod_lt_of_pos _ hl1;have q5:0<=p.tdiv c.length:=Cz hp om;have q6:p.tdiv c.length<=p:=Ec _ hp;have b1:=toNat_lt (c.getD (p.tmod c.length).toNat 0);have b2:=toNat_lt (c.getD ((p*7+3).tmod c.length).toNat 0);have r1:(p.tmod c.length).toNat<c.length:=om;have r2:((p*7+3).tmod c.length).toNat<c.length:=om;obtain⟨x,hx⟩:∃x:Int,x=((c.getD (p.tmod c.length).toNat 0).toNat:Int)*131+((c.getD ((p*7+3).tmod c.length).toNat 0).toNat:Int)*1117+p*29+p.tdiv c.length*53:=⟨_,rfl⟩
    have x0:0<=x:=om;have x1:x<2^62:=om;have y0:0<=x.tdiv 64:=Cz x0 om;have y1:x.tdiv 64<2^62:=by have:=Ec 64 x0;omega
    have z:=aJi x0 x1 y0 y1;have hb:b≠0:=om;have t0:0<=(iXor .i64 x (x.tdiv 64)).tmod b:=Int.tmod_nonneg b z.1;have t1:(iXor .i64 x (x.tdiv 64)).tmod b<b:=Int.tmod_lt_of_pos _ om;refine⟨(iXor .i64 x (x.tdiv 64)).tmod b,t0,fun _=>t1,by omega,fun R L n hq k hn hL=>aS aAW rfl rfl ?_⟩;clear b1 b2 z t0 t1;have b1:=toNat_lt (c.getD (p.tmod c.length).toNat 0);have b2:=toNat_lt (c.getD ((p*7+3).tmod c.length).toNat 0);subst hx;obtain _|n:=n;omega
    simp-implicitDefEqProofs (maxSteps:=9^7) (disch:=try exact Dz) only[↓DN,↓kAsg,↓kRet,UP,simprocAttr,h1,h2',e1,h3,pY,mX,Tryz.f72]
theorem aNX:(env.hint 74).mode=0:=kr
theorem m_of:(env.hint 207).mode=0:=kr
theorem aMU:(env.hint 195).mode=0:=kr
theorem aKS{R:Type}{call:aW}{hq:H}{f:FuncId}{c:List UInt8}{p q:Int}{r:A}{k:KA R}{cs:List D}{e g n id:Nat}(hi:hq[id]? =some (.arr cs e g))(hm:(env.hint f).mode=0)(hr:idsA r=[])(he:call f [.ptr 0 0 0,.sl 1 g 0 n] [rdO c p,.arr cs e g]=some (r,[rdO c q,.arr cs e g])):
  aU env call (rdO c p::hq) f [.ptr 0 0 0,.sl (id+1) g 0 n] k=k r (rdO c q::hq):=by
 have hlk:(rdO c p::hq)[id+1]? =some (.arr cs e g):=by rw[As];exact hi
 have hre:aC aD (rdO c p::hq) [0,id+1] []=[0,id+1]:=by
  have e1:aC aD (rdO c p::hq) [0,id+1] []=aC (aD-1) (rdO c p::hq) [id+1] [0]:=rfl
  have e2:aC (aD-1) (rdO c p::hq) [id+1] [0]=if [0].contains (id+1)=true then aC (aD-2) (rdO c p::hq) [] [0]else match(rdO c p::hq)[id+1]? with
   |some (.box cs)=>aC (aD-2) (rdO c p::hq) ([]++idsL cs) ([0]++[id+1])
   |some (.vec cs _ _)=>aC (aD-2) (rdO c p::hq) ([]++idsL cs) ([0]++[id+1])
   |some .void=>aC (aD-2) (rdO c p::hq) [] [0]
   |some _=>aC (aD-2) (rdO c p::hq) [] ([0]++[id+1])
   |none=>aC (aD-2) (rdO c p::hq) [] [0]:=rfl
  have e3:[0].contains (id+1)=false:=sm;rw[e1,e2,e3,hlk];rfl
 have hpk:pack (rdO c p::hq) [0,id+1]=[rdO c p,.arr cs e g]:=by
  simp only[pack,Ag,Ak,Ab,hlk]<;>rfl
 unfold aU;have hid:idsL [A.ptr 0 0 0,A.sl (id+1) g 0 n]=[0,id+1]:=rfl;rw[hid,hre,hpk]
 have hma:aE (aH [0,id+1]) [A.ptr 0 0 0,A.sl (id+1) g 0 n]=[A.ptr 0 0 0,A.sl 1 g 0 n]:=by
  simp[aE,mapA,aH]
 rw[hma]
 have hc:bJ call env.hint [rdO c p,.arr cs e g] f [.ptr 0 0 0,.sl 1 g 0 n]=some (r,[rdO c q,.arr cs e g]):=by
  unfold bJ;rw[hm];exact he
 rw[hc]
 have hcl:closed (rdO c p::hq) [0,id+1] [0,id+1]=true:=by
  simp only[closed,Bt,Ce,hlk,Ch];simp[idsL,idsA]
 simp only[Ac,Aa,Ad,hcl,and_self,if_true,nL r hr]
 congr 1
 simp only[bA,mapO,aE,mapA,Ak,Ai,Ci,Bk]
 congr 1
 exact aOA hi
theorem YH{α:Type}{l:List α}{k:Nat}{d:α}(h:k<l.length):l.getD k d∈l:=by
 rw[Ab,Ae h];exact Bd h
theorem aLI{c:List UInt8}(hc:c.length<=2000)(l:List Int)(g:Nat)(hl:0<l.length)(hl2:l.length<1000)(p:Int)(hp:0<=p)(hp2:p<=1000000000):∃v:Int,v∈l/\∀(L n:Nat),2<=n->2^60<=L->aA env L n 74 [.ptr 0 0 0,.sl 1 g 0 l.length] [rdO c p,.arr (ints l) 1 g]=some (nI v,[rdO c (p+1),.arr (ints l) 1 g]):=by
 obtain⟨v,v0,v1,_,kd⟩:=bN hc p l.length hp hp2;have v1:=v1 om;have hk:v.toNat<l.length:=om;refine⟨l.getD v.toNat 0,YH hk,fun L n hn hL=> ?_⟩;obtain _|n:=n;omega
 simp-implicitDefEqProofs (maxSteps:=9^7) (disch:=try exact Dz) only[↓DN,↓kAsg,↓kRet,UP,simprocAttr,↓kd,aB1,PD,Tryz.f74]
theorem gQ{c:List UInt8}(hc:c.length<=2000)(l:List Int)(hl:0<l.length)(hl2:l.length<1000)(p:Int)(hp:0<=p)(hp2:p<=1000000000):∃v:Int,v∈l/\(∀(R:Type) (L n id:Nat) (hq:H) (k:KA R),2<=n->2^60<=L->hq[id]? =some (.arr (ints l) 1 0)->aU env (aA env L n) (rdO c p::hq) 74 [.ptr 0 0 0,.sl (id+1) 0 0 l.length] k=k (nI v) (rdO c (p+1)::hq)):=by
 obtain⟨v,hv,he⟩:=aLI hc l 0 hl hl2 p hp hp2;exact⟨v,hv,fun R L n id hq k hn hL hi=>aKS hi aNX rfl (he L n hn hL)⟩
def nX(l:List (List UInt8)):List D:=l.map .str
theorem qT{l:List (List UInt8)}:(nX l).length=l.length:=by simp[nX]
theorem EF{l:List (List UInt8)}{k:Nat}(h:k<l.length):(((nX l).drop k).map A.d).head? =some (.d (.str (l.getD k []))):=by
 rw[Dm,Cs,nX,Bc,Ab,Ae h];rfl
theorem aPr{c:List UInt8}(hc:c.length<=2000)(l:List (List UInt8))(hl:0<l.length)(hl2:l.length<1000)(p:Int)(hp:0<=p)(hp2:p<=1000000000):∃v:List UInt8,v∈l/\(Dw 2 207 [.d (.ivs l.length (nX l))] (.d (.str v)) c p (p+1)):=by
 obtain⟨v,v0,v1,_,kd⟩:=bN hc p l.length hp hp2;have v1:=v1 om;have hk:v.toNat<l.length:=om;refine⟨l.getD v.toNat [],YH hk,fun R L n hq k hn hL=>aS m_of rfl rfl ?_⟩;obtain _|n:=n;omega
 simp-implicitDefEqProofs (maxSteps:=9^7) (disch:=try exact Dz) only[↓DN,↓kAsg,↓kRet,UP,simprocAttr,↓kd,qT,EF,aEm,R4,Tryz.f207]
theorem aK5{c:List UInt8}(hc:c.length<=2000)(p:Int)(hp:0<=p)(hp2:p<=1000000000):∃v:Int,v∈[3,7,1,5,0,6,63,2,(21:Int)]/\(Dw 3 195 [] (nI v) c p (p+1)):=by
 obtain⟨v,hv,kd⟩:=gQ hc [3,7,1,5,0,6,63,2,21] sm sm p hp hp2;simp only[ints,Ag,Ak,Ac,Aa,Af,Nat.reduceAdd]at kd;refine⟨v,hv,fun R L n hq k hn hL=>aS aMU rfl rfl ?_⟩;obtain _|n:=n;omega
 simp-implicitDefEqProofs (maxSteps:=9^7) (disch:=try exact Dz) only[↓DN,↓kAsg,↓kRet,UP,simprocAttr,↓kd,aHn,aBl,Tryz.f195]
theorem VU{L n:Nat}(hn:1<=n)(l:Int)(h0:0<=l)(h:l<=5):aA env L n 161 [nI l] []=some (.d (.str [sB l]),[]):=by
 have e:IntKind.u8.wrap (97+l)=((sB l).toNat:Int):=aDS h0 h;have e2:[D.int .u8 ((sB l).toNat:Int)]=bE [sB l]:=rfl;obtain _|n:=n;omega
 simp-implicitDefEqProofs (maxSteps:=9^7) (disch:=try exact Dz) only[↓DN,↓kAsg,↓kRet,UP,simprocAttr,e,e2,↓LU,aHY,YS,Tryz.f161]
theorem VV:type_of% fun {L} l h0 h=>ks fun hn=> @VU L _ hn l h0 h:=fun {L} l h0 h=>ks fun hn=> @VU L _ hn l h0 h
end Ev
end Go.Proofs.YtahbdkmimmnadaaGreatDoor
