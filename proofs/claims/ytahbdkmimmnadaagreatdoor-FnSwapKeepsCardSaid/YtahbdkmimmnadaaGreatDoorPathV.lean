/-
  Systems that run together, walked: where a letter leads.
-/
import Derived.Test.YtahbdkmimmnadaaGreatDoorPartsN
import Derived.Test.YtahbdkmimmnadaaGreatDoorNetY
import Derived.Test.YtahbdkmimmnadaaGreatDoorLeast
set_option linter.unusedSimpArgs false
set_option linter.unusedVariables false
set_option linter.unusedSectionVars false
set_option maxRecDepth 8000
set_option maxHeartbeats 4000000
namespace Go.Proofs.YtahbdkmimmnadaaGreatDoor
namespace Ev
def y8:List Mb->Int->Int->List Int->Int×Int×List Int
 | [],v,w,r=>(v,w,r)
 |m::ms,v,w,r=>y8 ms (v.tdiv m.1) (w*m.1) ((m.2 (v.tmod m.1)).flatMap fun q=>r.map fun x=>q*w+x)
theorem aK0:∀(ms:List Mb) (v w:Int) (r:List Int),(y8 ms v w r).2.2=B2 ms v w r
 | [],_,_,_=>rfl
 |m::ms,v,w,r=>aK0 ms _ _ _
theorem aNm{P:List Sys}{j:Nat}(h:j<P.length):(P.take (j+1)).reverse=P.getD j default::(P.take j).reverse:=by
 rw[Dt,List.reverse_append,Aa,Ae h];rfl
theorem aG7{s:Sys}(h:bK s=true){l q:Int}:(choI s l q).length<=16:=by
 unfold choI
 split
 ·exact aP7 16 _ _ (G9 h _) (by have:=G9 h (q.toNat*6+l.toNat);omega)
 ·simp
theorem aHv{s:Sys}(h:bK s=true){l q:Int}(hl:0<=l/\l<6)(hq:0<=q/\q<s.st):∀x∈choI s l q,0<=x/\x<s.st:=fun x hx=>wB h hq x ((aK9 h hl hq.1 x).1 hx)
theorem WI{r:List Int}{w:Int}:∀ts:List Int,(ts.flatMap fun q=>r.map fun x=>q*w+x).length=ts.length*r.length
 | []=>by simp
 |t::ts=>by rw[List.flatMap_cons,Ai,Ar,WI ts,Ac,Bw];omega
theorem aQa{R:Type}{L n:Nat}(hn:3<=n)(hL:2^60<=L){P:List Sys}(hP:cW P)(hv:bQ P=true){l:Int}(hl:0<=l/\l<6){o:List Int}{k:KE R}:∀(j:Nat) (i:Int) (m:Nat) (v w:Int) (r:List Int) (e len:Nat) (hi:i=(j:Int)-1) (hj:j<=P.length) (hm:j<m) (hv0:0<=v) (hv1:v<=4294967296) (hw0:0<=w) (hw1:w<=16^(P.length-j)) (hr:r.length<=16^(P.length-j)) (hx:∀x∈r,0<=x/\x<w) (he:e=eI r) (hlen:r.length=len),
  aS env (aA env L n) L 1 (W8 (W4 (W2 [2]))) Bz0 (eM 0) (U1 (Z4 (U2 (U1 (Z4 (U32 (U32 (U8 (U4 (U2 (U1 ([])))))))))))) m (Y1 (nI v::nI l::.sl 0 0 0 o.length::.ptr 1 0 0::Y2 (Y1 (.d .nils::.sl 2 0 0 len::nI w::nI i::Y32 (Y32 (Y8 (Y4 (Y2 (Y1 ([])))))))))) [.arr (ints o) 1 0,.box [.d (.ivs P.length (sysD P)),.d (.ivs P.length (mvsD P))],.arr (ints r) e 0] k
  =k (.exit 0) (Y1 (nI ((y8 ((P.take j).reverse.map (sysI l)) v w r).1)::nI l::.sl 0 0 0 o.length::.ptr 1 0 0::Y2 (Y1 (.d .nils::.sl 2 0 0 (y8 ((P.take j).reverse.map (sysI l)) v w r).2.2.length::nI ((y8 ((P.take j).reverse.map (sysI l)) v w r).2.1)::nI (-1)::Y32 (Y32 (Y8 (Y4 (Y2 (Y1 ([])))))))))) [.arr (ints o) 1 0,.box [.d (.ivs P.length (sysD P)),.d (.ivs P.length (mvsD P))],.arr (ints (y8 ((P.take j).reverse.map (sysI l)) v w r).2.2) (eI (y8 ((P.take j).reverse.map (sysI l)) v w r).2.2) 0]:=by
 obtain⟨h3,_,hs⟩:=dH hv;intro j
 induction j with
 |zero=>
  intro i m v w r e len hi hj hm hv0 hv1 hw0 hw1 hr hx he hlen;obtain _|m:=m;omega;obtain rfl:i= -1:=om;subst he;subst hlen;have h0:¬(0:Int)<= -1:=om;simp only[List.take_zero,List.reverse_nil,Al,y8]
  simp-implicitDefEqProofs (maxSteps:=9^7) (disch:=try exact Dz) only[↓DN,↓kRet,UP,simprocAttr,h0,qG,oR,Tryz.f150]
 |succ j ih=>
  intro i m v w r e len hi hj hm hv0 hv1 hw0 hw1 hr hx he hlen;obtain _|m:=m;omega;obtain rfl:i=(j:Int):=om;subst hlen;have hk:j<P.length:=om;have hc:(j:Int)<P.length:=om;have hi0:(0:Int)<=j:=om;have g:=tG hk;have gm:=aPI hk;have hso:=hs _ (HE hk);obtain⟨_,s1,s2,_,_⟩:=dK.1 hso
  have hr16:16^(P.length-(j+1))<=256:=by
   rcases(show P.length-(j+1)=0\/P.length-(j+1)=1\/P.length-(j+1)=2 by omega)with h|h|h<;>rw[h]<;>decide
  have hp16:(16:Int)^(P.length-(j+1))<=256:=by
   rcases(show P.length-(j+1)=0\/P.length-(j+1)=1\/P.length-(j+1)=2 by omega)with h|h|h<;>rw[h]<;>decide
  have e16:P.length-j=(P.length-(j+1))+1:=om;have eI16:(16:Int)^(P.length-j)=16^(P.length-(j+1))*16:=by rw[e16,Int.pow_succ]
  have eN16:16^(P.length-j)=16^(P.length-(j+1))*16:=by rw[e16,Nat.pow_succ]
  rw[aNm hk,Af];simp only[y8,sysI];have hmv:∀x,mvAt (P.getD j default).es.reverse x<65536:=fun x=>G9 hso x;have hcl:=fun q=>aG7 hso (l:=l) (q:=q);have hcr:=fun q hq=>aHv hso (l:=l) (q:=q) hl hq;have hq0:=j0 hv0 (show 0<(P.getD j default).st by omega);have hd0:0<=v.tdiv (P.getD j default).st:=Cl hv0 om;have hd1:v.tdiv (P.getD j default).st<=v:=Ec _ hv0;have hw2:0<=w*(P.getD j default).st:=Cd hw0 om;have hw3:w*(P.getD j default).st<=w*16:=Dn s2 hw0
  have ih':=ih ((j:Int)-1) m (v.tdiv (P.getD j default).st) (w*(P.getD j default).st) ((choI (P.getD j default) l (v.tmod (P.getD j default).st)).flatMap fun q=>r.map fun x=>q*w+x) _ _ rfl om om hd0 om hw2 om (by
    rw[WI,eN16,Nat.mul_comm];exact Nat.mul_le_mul hr (hcl _)) (fun x hx2=>by
    obtain⟨q,hq,hx2⟩:=Du.1 hx2;obtain⟨y,hy,rfl⟩:=Bf.1 hx2;obtain⟨a0,a1⟩:=hcr _ hq0 q hq;obtain⟨b0,b1⟩:=hx y hy;have m0:=Cd a0 hw0;have m1:(q+1)*w<=(P.getD j default).st*w:=Cm om hw0;rw[Int.add_mul,Int.one_mul,Int.mul_comm (P.getD j default).st]at m1;omega) rfl rfl
  have hxw:∀x∈r,0<=x/\x<4096:=fun x hx2=>by have:=hx x hx2;omega
  have hts:∀q∈choI (P.getD j default) l (v.tmod (P.getD j default).st),0<=q/\q<16:=fun q hq=>by have:=hcr _ hq0 q hq;omega
  have htl:=hcl (v.tmod (P.getD j default).st);obtain⟨q,hq⟩:∃q:Nat,v.tmod (P.getD j default).st=q:=⟨(v.tmod (P.getD j default).st).toNat,by omega⟩
  rw[hq]at ih' hts htl hq0|-;have hqq:q*6+l.toNat<96:=om;have hq2:(q:Int)<16:=om;have hst0:¬(P.getD j default).st=0:=om;have hd3:l.toNat<=96-q*6:=om;have hd4:q*6<=96:=om;have hwr:IntKind.i64.wrap (w*(P.getD j default).st)=w*(P.getD j default).st:=dM om om;obtain⟨l0,l1⟩:=hl
  by_cases hb:bG (P.getD j default).al l=true
  ·have hch:choI (P.getD j default) l (q:Int)=memG (mvAt (P.getD j default).es.reverse (q*6+l.toNat)) (mvAt (P.getD j default).es.reverse (q*6+l.toNat)):=by
    unfold choI;rw[if_pos hb,Ct]
   have loop_c:=fun {R:Type} {n:Nat} (hn:2<=n) {v i:Int} {k:KE R}=> @aMK R L n hn hL P (P.getD j default) o r (choI (P.getD j default) l (q:Int)) e v l w i h3 om he htl om hts hxw k (choI (P.getD j default) l (q:Int)).length 0 L [] 0 1 om om rfl rfl (by simp only[Ab];omega);rw[Ax]at loop_c;simp only[Aw,Am,gY]at loop_c;rw[hch]at ih' loop_c htl|-;have hmq:=hmv (q*6+l.toNat);clear ih hs hx hxw hts hcr hcl hP hv hso hr hr16 hp16 eI16 eN16;generalize(P.take j).reverse.map (sysI l)=ms at *;generalize hu:v.tdiv (P.getD j default).st=v2 at *;generalize P.getD j default=s at *
   simp-implicitDefEqProofs (maxSteps:=9^7) (disch:=try exact Dz) only[↓DN,↓kAsg,↓kRet,UP,simprocAttr,↓jA,NE,Ar,Bj,Br,hc,hi0,g,gm,hq,hu,hwr,hb,l0,l1,hq2,HG,aEc,aIL,↓aHI,↓loop_c,↓ih',qG,oR,Tryz.f150]
  ·rw[Bool.not_eq_true]at hb
   have hch:choI (P.getD j default) l (q:Int)=[(q:Int)]:=by
    unfold choI;rw[if_neg (by rw[hb];simp)]
   have loop_c:=fun {R:Type} {n:Nat} (hn:2<=n) {v i:Int} {k:KE R}=> @aMG R L n hn hL P (P.getD j default) o r (choI (P.getD j default) l (q:Int)) e v l w i h3 om he htl om hts hxw k (choI (P.getD j default) l (q:Int)).length 0 L [] 0 1 om om rfl rfl (by simp only[Ab];omega);rw[Ax]at loop_c;simp only[Aw,Am,gY]at loop_c;rw[hch]at ih' loop_c|-;simp only[aND,Ac,Ab,Ag,Int.natCast_one]at loop_c;have ef:([(q:Int)].flatMap fun q=>r.map fun x=>q*w+x)=r.map fun x=>(q:Int)*w+x:=sm;rw[ef]at ih' loop_c|-;simp only[Ar]at ih';clear ih hs hx hxw hts hcr hcl hP hv hso hr hr16 hp16 eI16 eN16 htl;generalize(P.take j).reverse.map (sysI l)=ms at *;generalize hu:v.tdiv (P.getD j default).st=v2 at *;generalize P.getD j default=s at *
   simp-implicitDefEqProofs (maxSteps:=9^7) (disch:=try exact Dz) only[↓DN,↓kAsg,↓kRet,UP,simprocAttr,↓jA,NE,Ar,Bj,hc,hi0,g,hq,hu,hwr,hb,l0,↓loop_c,↓ih',qG,oR,Tryz.f150]
theorem aFA:∀ {ms:List Mb} (_:∀m∈ms,∀q,(m.2 q).length<=16) {v w:Int} {r:List Int},(B2 ms v w r).length<=16^ms.length*r.length
 | [],_,v,w,r=>by simp[B2]
 |m::ms,h,v,w,r=>by
  rw[B2];refine Bk (aFA fun m hm=>h m (Bc _ hm)) ?_;rw[WI,Ac,Nat.pow_succ,Nat.mul_assoc];exact Nat.mul_le_mul_left _ (Nat.mul_le_mul_right _ (h m Bg _))
theorem aDy{P:List Sys}{l v:Int}(h3:P.length<=3)(hs:∀s∈P,bK s=true):(pnx (P.reverse.map (sysI l)) v).length<=4096:=by
 have h:=aFA (ms:=P.reverse.map (sysI l)) (fun m hm q=>by
  obtain⟨s,hs2,rfl⟩:=Bf.1 hm;exact aG7 (hs s (Cq.1 hs2))) (v:=v) (w:=1) (r:=[0])
 rw[Ar,List.length_reverse,Ci,Bu]at h;refine Bk h ?_
 rcases(show P.length=0\/P.length=1\/P.length=2\/P.length=3 by omega)with h|h|h|h<;>rw[h]<;>decide
theorem aCf{L n:Nat}(hn:4<=n)(hL:2^60<=L){P:List Sys}(hP:cW P)(hv:bQ P=true){v l:Int}(hl:0<=l/\l<6)(hv0:0<=v)(hv1:v<=4294967296)(o:List Int)(ho:o.length<=4200000000):
  aA env L n 150 [.agg [.d (.ivs P.length (sysD P)),.d (.ivs P.length (mvsD P))],nI v,nI l,.sl 0 0 0 o.length] [.arr (ints o) 1 0]=some (.sl 0 1 0 (o++pnx (P.reverse.map (sysI l)) v).length,[.arr (ints (o++pnx (P.reverse.map (sysI l)) v)) 1 1]):=by
 obtain⟨h3,h1,hs⟩:=dH hv;have loop_a:=fun {R n k} hn=> @aQa R L n hn hL P hP hv l hl o k P.length ((P.length:Int)-1) L v 1 [0] 1 1 rfl (Ad _) om hv0 hv1 om sm sm sm rfl rfl;have hw:=aDy (l:=l) (v:=v) h3 hs;simp only[Cs,aK0,aND]at loop_a;have e:B2 (P.reverse.map (sysI l)) v 1 [0]=pnx (P.reverse.map (sysI l)) v:=rfl;rw[e]at loop_a;clear hv hs hP e;generalize pnx (P.reverse.map (sysI l)) v=w at *;generalize(y8 (P.reverse.map (sysI l)) v 1 [0]).1=v9 at *;generalize(y8 (P.reverse.map (sysI l)) v 1 [0]).2.1=w9 at *;obtain _|n:=n;omega
 simp-implicitDefEqProofs (maxSteps:=9^7) (disch:=try exact Dz) only[↓DN,↓kAsg,↓kRet,UP,simprocAttr,↓loop_a,aCG,NH,Tryz.f150];simp only[ints,Dp]
section
variable{R:Type}{L n:Nat}
def tabD(t:List (List (List Int))):List D:=t.map fun r=>.ivs r.length (aP r)
theorem aPj:tabD []=[]:=rfl
theorem MU{l:List (List (List Int))}:(tabD l).length=l.length:=by simp[tabD]
theorem aBa{l:List (List (List Int))}{k:Nat}(h:l.length<=k):(tabD l).take k=tabD l:=Ca (by rw[MU];exact h)
theorem aIm{l:List (List (List Int))}{k:Nat}(h:k<l.length):(((tabD l).drop k).map A.d).head? =some (.d (.ivs (l.getD k []).length (aP (l.getD k [])))):=by
 rw[List.head?_map,Dc,tabD,Bb,Aa,Ae h];rfl
theorem aPq{l:List (List (List Int))}{r:List (List Int)}{z:Nat}(h:z=r.length):tabD l++[.ivs z (aP r)]=tabD (l++[r]):=by
 subst h;simp[tabD]
theorem TE:type_of% (AI @MU (AI @aBa @aIm)):=
 ⟨@MU,@aBa,@aIm⟩
theorem aAO(hn:8<=n)(hL:2^60<=L){c1 c2 c3 c4 c5 c6:D}{zs ss ls:List Int}{nx:Int->List Int}{out:List (List (List Int))}{tt v:Int}{ol:Nat}(hll:ls.length<=1000)(hzl:zs.length<=4000)(hsl:ss.length<=4000)(hol:out.length<=4294967290)
  (kc_x:∀(l:Int),l∈ls->∀ {R:Type} {n:Nat} {hq:H} {k:KA R},7<=n->aW env (aA env L n) hq 212 [.agg [.d c1,.d c2,.d c3,.d c4,.d c5,.d c6],.d (.ivs zs.length (ints zs)),.d (.ivs ss.length (ints ss)),nI l] k=k (.d (.ivs (nx l).length (ints (nx l)))) hq)
  {k:KE R}:∀(j p m:Nat) (o:List (List Int)) (len:Nat) (hp:p+j=ls.length) (hm:j<m) (hlen:len=o.length) (ho:o.length+j<=4000),
  aS env (aA env L n) L 0 [] Bz18 (rV 1) (U1 (Z2 (Z1 (U2 (Z4 (Z2 (Z1 (U32 (U2 (U1 ([]))))))))))) m (Y1 (.d (.ivs zs.length (ints zs))::nI tt::.ptr 0 0 0::Y2 (.d .nils::.sl 1 0 0 ol::.d (.ivs ls.length (ints ls))::nI v::.d (.ivs ss.length (ints ss))::.sl 2 0 0 len::nI p::Y32 (Y2 (Y1 ([])))))) [.box [.d c1,.d c2,.d c3,.d c4,.d c5,.d c6],.arr (tabD out) 1 0,.arr (aP o) 1 0] k
  =k (.exit 2) (Y1 (.d (.ivs zs.length (ints zs))::nI tt::.ptr 0 0 0::Y2 (.d .nils::.sl 1 0 0 ol::.d (.ivs ls.length (ints ls))::nI v::.d (.ivs ss.length (ints ss))::.sl 2 0 0 (o++(ls.drop p).map nx).length::nI (ls.length)::Y32 (Y2 (Y1 ([])))))) [.box [.d c1,.d c2,.d c3,.d c4,.d c5,.d c6],.arr (tabD out) 1 0,.arr (aP (o++(ls.drop p).map nx)) 1 0]:=by
 intro j
 induction j with
 |zero=>
  intro p m o len hp hm hlen ho;obtain _|m:=m;omega;obtain rfl:p=ls.length:=om;subst hlen
  simp-implicitDefEqProofs (maxSteps:=9^7) (disch:=try exact Dz) only[↓DN,↓kRet,UP,simprocAttr,Ak,IT,D3,Tryz.f155];simp
 |succ j ih=>
  intro p m o len hp hm hlen ho;obtain _|m:=m;omega;subst hlen;have hk:p<ls.length:=om;have hc:(p:Int)<ls.length:=om;have hp0:(0:Int)<=p:=om;have kc_y:=fun {R:Type} {n:Nat} {hq:H} {k:KA R} (hn:7<=n)=>kc_x _ (fO hk) (R:=R) (n:=n) (hq:=hq) (k:=k) hn;have ih':=ih (p+1) m (o++[nx (ls.getD p 0)]) (o.length+1) om om sm (by rw[Ai,Ci];omega);rw[cs1 p]at ih';rw[bP hk (d:=0),Af];simp only[Ao,As,Am]at ih';clear ih kc_x;generalize nx (ls.getD p 0)=w at *
  simp-implicitDefEqProofs (maxSteps:=9^7) (disch:=try exact Dz) only[↓DN,↓kRet,UP,simprocAttr,LA,hc,hp0,↓kc_y,WY,↓ih',IT,D3,Tryz.f155]
theorem aAl(hn:8<=n)(hL:2^60<=L){c1 c2 c3 c4 c5 c6:D}{zs ls:List Int}{nx:Int->Int->List Int}{tt:Nat}(hll:ls.length<=1000)(hzl:zs.length<=1000)(htt:tt<=65536)(hzp:∀z∈zs,0<z/\z<=65536)
  (kc_x:∀(v:Nat) (l:Int),v<tt->l∈ls->∀ {R:Type} {n:Nat} {hq:H} {k:KA R},7<=n->aW env (aA env L n) hq 212 [.agg [.d c1,.d c2,.d c3,.d c4,.d c5,.d c6],.d (.ivs zs.length (ints zs)),.d (.ivs zs.length (ints (decN zs v))),nI l] k=k (.d (.ivs (nx v l).length (ints (nx v l)))) hq)
  {k:KE R}:∀(j v m:Nat) (o:List (List (List Int))) (len:Nat) (hp:v+j=tt) (hm:j<m) (hlen:len=o.length) (ho:o.length=v),
  aS env (aA env L n) L 0 [] Bz18 (rV 0) (U1 (Z2 (Z1 (U2 (Z4 (U32 (U4 (U2 ([]))))))))) m (Y1 (.d (.ivs zs.length (ints zs))::nI tt::.ptr 0 0 0::Y2 (.d .nils::.sl 1 0 0 len::.d (.ivs ls.length (ints ls))::nI v::Y32 (Y4 (Y2 ([])))))) [.box [.d c1,.d c2,.d c3,.d c4,.d c5,.d c6],.arr (tabD o) 1 0] k
  =k (.exit 0) (Y1 (.d (.ivs zs.length (ints zs))::nI tt::.ptr 0 0 0::Y2 (.d .nils::.sl 1 0 0 (o++(List.range' v j).map fun(x:Nat)=>ls.map (nx x)).length::.d (.ivs ls.length (ints ls))::nI tt::Y32 (Y4 (Y2 ([])))))) [.box [.d c1,.d c2,.d c3,.d c4,.d c5,.d c6],.arr (tabD (o++(List.range' v j).map fun(x:Nat)=>ls.map (nx x))) 1 0]:=by
 intro j
 induction j with
 |zero=>
  intro v m o len hp hm hlen ho;obtain _|m:=m;omega;obtain rfl:v=tt:=om;subst hlen
  simp-implicitDefEqProofs (maxSteps:=9^7) (disch:=try exact Dz) only[↓DN,↓kRet,UP,simprocAttr,Ak,G8,D4,Tryz.f155]
  all_goals simp
 |succ j ih=>
  intro v m o len hp hm hlen ho;obtain _|m:=m;omega;subst hlen;have hc:(v:Int)<tt:=om;have hv0:(0:Int)<=v:=om;have hdl:=BQ zs v;have kc_d:=@QX L zs v hzp hzl hv0 om hL;have loop_c:=fun {R n k} hn=> @aAO R L n hn hL c1 c2 c3 c4 c5 c6 zs (decN zs v) ls (nx v) o tt v o.length hll om om om (fun l hl {R n hq k} hn=>by rw[hdl];exact kc_x v l om hl hn) k ls.length 0 L [] 0 om om rfl (by simp;omega);simp only[Ax,Aw,Am,CI,hdl]at loop_c;have ih':=ih (v+1) m (o++[ls.map (nx v)]) (o.length+1) om om sm (by simp;omega);rw[cs1 v]at ih';rw[Ea,Af];simp only[Ao,As,Am]at ih';clear ih kc_x;have hwl:(ls.map (nx v)).length=ls.length:=sm;generalize ls.map (nx v)=w at *;generalize decN zs v=ss at *
  simp-implicitDefEqProofs (maxSteps:=9^7) (disch:=try exact Dz) only[↓DN,↓kAsg,↓kRet,UP,simprocAttr,TE,LA,hc,↓kc_d,↓loop_c,aPq,↓ih',G8,D4,Tryz.f155]
theorem aHq(hn:9<=n)(hL:2^60<=L){n1 n2 n3:Nat}{d1 d2 d3:List D}{kd go:Int}{zs:List Int}{al:Int}{nx:Int->Int->List Int}{tt:Nat}(hzl:zs.length<=1000)(htt:tt<=65536)(hzp:∀z∈zs,0<z/\z<=65536)
  (kc_x:∀(v:Nat) (l:Int),v<tt->l∈aC al->∀ {R:Type} {n:Nat} {hq:H} {k:KA R},7<=n->aW env (aA env L n) hq 212 [.agg [.d (.ivs n1 d1),.d (.ivs n2 d2),.d (.ivs n3 d3),nI al,nI kd,nI go],.d (.ivs zs.length (ints zs)),.d (.ivs zs.length (ints (decN zs v))),nI l] k=k (.d (.ivs (nx v l).length (ints (nx v l)))) hq):
  aA env L n 155 [.agg [.d (.ivs n1 d1),.d (.ivs n2 d2),.d (.ivs n3 d3),nI al,nI kd,nI go],.d (.ivs zs.length (ints zs)),nI tt] []=some (.d (.ivs tt (tabD ((List.range tt).map fun(x:Nat)=>(aC al).map (nx x)))),[]):=by
 have hll:(aC al).length<=1000:=by have:=dD al;omega
 have loop_c:=fun {R n k} hn=> @aAl R L n hn hL (.ivs n1 d1) (.ivs n2 d2) (.ivs n3 d3) (.int .i64 al) (.int .i64 kd) (.int .i64 go) zs (aC al) nx tt hll hzl htt hzp kc_x k tt 0 L [] 0 om om rfl rfl;simp only[Aw,Am,aPj,<-List.range_eq_range']at loop_c;have hwl:((List.range tt).map fun(x:Nat)=>(aC al).map (nx x)).length=tt:=sm;generalize(List.range tt).map (fun(x:Nat)=>(aC al).map (nx x))=w at *;have e4:(tabD w).take tt=tabD w:=aBa om;clear kc_x hzp;obtain _|n:=n;omega
 simp-implicitDefEqProofs (maxSteps:=9^7) (disch:=try exact Dz) only[↓DN,↓kAsg,↓kRet,UP,simprocAttr,↓fL,TE,↓loop_c,e4,hwl,aJg,ZB,Tryz.f155]
end
section
variable{R:Type}{L n:Nat}
def BU(tab:List (List (List Int)))(aL:Nat):Prop:=tab.length=aL/\∀i,i<aL->(tab.getD i []).length<=1000/\∀r∈tab.getD i [],r.length<=4294967290/\∀x∈r,0<=x/\x<aL
theorem aBk(hn:3<=n)(hL:2^60<=L){tab:List (List (List Int))}{aL:Nat}{d:Int}(ht:BU tab aL)(htt:aL<=65536)(hd:1<=d)(hd2:d<=4294967296){k:KE R}:∀(j i m:Nat) (q:List Int) (b:Bool) (len:Nat) (hi:i+j=aL) (hm:j<m) (hq:q.length=aL) (hlen:len=aL),
  aS env (aA env L n) L 1 [] Bz22 (pT 1) (Z2 (U2 (Z2 (Z1 (U16 (U8 (U4 ([])))))))) m (.d (.ivs tab.length (tabD tab))::.sl 0 0 0 len::Y2 (.d (.bool b)::nI d::nI i::Y16 (Y8 (Y4 ([]))))) [.arr (ints q) 1 0] k
  =k (.exit 2) (.d (.ivs tab.length (tabD tab))::.sl 0 0 0 len::Y2 (.d (.bool (((dQ tab d j i (q,b)).2)))::nI d::nI aL::Y16 (Y8 (Y4 ([]))))) [.arr (ints (dQ tab d j i (q,b)).1) 1 0]:=by
 obtain⟨tl,ht⟩:=ht;intro j
 induction j with
 |zero=>
  intro i m q b len hi hm hq hlen;obtain _|m:=m;omega;obtain rfl:i=aL:=om;subst hlen
  simp-implicitDefEqProofs (maxSteps:=9^7) (disch:=try exact Dz) only[↓DN,↓kRet,UP,simprocAttr,Ak,rD,sH,Tryz.f158]<;>rfl
 |succ j ih=>
  intro i m q b len hi hm hq hlen;obtain _|m:=m;omega;subst hlen;have hk:i<q.length:=om;have hkt:i<tab.length:=om;have hc:(i:Int)<len:=om;have hi0:(0:Int)<=i:=om;obtain⟨t1,t2⟩:=ht i om;have kl_n:=@aJR L (tab.getD i []) q (d-1) om (by rw[hq];exact t2) om hL;rw[hq]at kl_n;simp only[dQ]
  by_cases h1:q.getD i 0<0
  ·by_cases h2:KG (tab.getD i []) q (d-1)=true
   ·have ih':=ih (i+1) m (q.set i d) true len om om (by simpa using hq) rfl;rw[cs1 i]at ih';rw[if_pos ⟨h1,h2⟩];clear ih;rw[h2]at kl_n
    simp-implicitDefEqProofs (maxSteps:=9^7) (disch:=try exact Dz) only[↓DN,↓kAsg,↓kRet,UP,simprocAttr,↓RV,TE,hc,hi0,h1,↓kl_n,↓GR,↓ih',rD,sH,Tryz.f158]
   ·have ih':=ih (i+1) m q b len om om hq rfl;rw[cs1 i]at ih';rw[if_neg fun h=>h2 h.2];clear ih;rw[Bool.not_eq_true]at h2;rw[h2]at kl_n
    simp-implicitDefEqProofs (maxSteps:=9^7) (disch:=try exact Dz) only[↓DN,↓kRet,UP,simprocAttr,↓RV,TE,hc,hi0,h1,↓kl_n,↓ih',rD,sH,Tryz.f158]
  ·have ih':=ih (i+1) m q b len om om hq rfl;rw[cs1 i]at ih';rw[if_neg fun h=>h1 h.1];clear ih kl_n
   simp-implicitDefEqProofs (maxSteps:=9^7) (disch:=try exact Dz) only[↓DN,↓kRet,UP,simprocAttr,hc,hi0,h1,↓ih',rD,sH,Tryz.f158]
def dEnd(tab:List (List (List Int))):Nat->Int->List Int->Int
 |0,d,_=>d
 |j+1,d,dist=>if(dQ tab d dist.length 0 (dist,false)).2=true then dEnd tab j (d+1) (dQ tab d dist.length 0 (dist,false)).1 else d+1
theorem MJ{tab:List (List (List Int))}{d:Int}:∀(j i:Nat) (q:List Int×Bool),(dQ tab d j i q).1.length=q.1.length
 |0,_,q=>rfl
 |j+1,i,q=>by
  simp only[dQ]
  split
  ·rw[MJ j];simp
  ·exact MJ j _ q
theorem aBV{R:Type}{L n m tt len:Nat}{tab:List (List (List Int))}{d:Int}{h:List Int}{k:KE R}:
  aS env (aA env L n) L 1 [] Bz22 (pT 0) Bz62 (m+1) (.d (.ivs tt (tabD tab))::.sl 0 0 0 len::Y2 (.d (.bool false)::nI d::Y16 (Y8 (Y4 (Y1 ([])))))) [.arr (ints h) 1 0] k
  =k (.exit 0) (.d (.ivs tt (tabD tab))::.sl 0 0 0 len::Y2 (.d (.bool false)::nI d::Y16 (Y8 (Y4 (Y1 ([])))))) [.arr (ints h) 1 0]:=by
 simp-implicitDefEqProofs (maxSteps:=9^7) (disch:=try exact Dz) only[↓DN,UP,simprocAttr,zB,yP,Tryz.f158]
theorem aBv(hn:3<=n)(hL:2^60<=L){tab:List (List (List Int))}{aL:Nat}(ht:BU tab aL)(htt:aL<=65536){k:KE R}:∀(j:Nat) (d:Int) (m:Nat) (q:List Int) (len:Nat) (hc:q.countP (·<0)<j) (hm:j<m) (hd:1<=d) (hd2:d+j<=4294967296) (hq:q.length=aL) (hlen:len=aL),
  aS env (aA env L n) L 1 [] Bz22 (pT 0) Bz62 m (.d (.ivs tab.length (tabD tab))::.sl 0 0 0 len::Y2 (.d (.bool true)::nI d::Y16 (Y8 (Y4 (Y1 ([])))))) [.arr (ints q) 1 0] k
  =k (.exit 0) (.d (.ivs tab.length (tabD tab))::.sl 0 0 0 len::Y2 (.d (.bool false)::nI (dEnd tab j d q)::Y16 (Y8 (Y4 (Y1 ([])))))) [.arr (ints (dJ tab j d q)) 1 0]:=by
 intro j
 induction j with
 |zero=>intro d m q len hc;omega
 |succ j ih=>
  intro d m q len hc hm hd hd2 hq hlen;obtain _|m:=m;omega;subst hlen;have loop_c:=fun {R n k} hn=> @aBk R L n hn hL tab len d ht htt hd om k len 0 L q false len om om hq rfl;simp only[Aw]at loop_c;have hcnt:=XY (tab:=tab) (d:=d) om len 0 (q,false) (by simp;omega);have hlen2:=MJ (tab:=tab) (d:=d) len 0 (q,false);simp only[dJ,dEnd,hq];generalize dQ tab d len 0 (q,false)=r at *;obtain⟨r0,r1⟩:=r;simp only at loop_c hcnt hlen2|-
  cases r1 with
  |true=>
   have hlt:r0.countP (·<0)<q.countP (·<0):=by
    rcases hcnt.2 rfl with h|h
    ·cases h
    ·exact h
   have ih':=ih (d+1) m r0 len om om om om om rfl;simp only[if_true];clear ih hcnt
   simp-implicitDefEqProofs (maxSteps:=9^7) (disch:=try exact Dz) only[↓DN,↓kAsg,↓kRet,UP,simprocAttr,↓loop_c,↓ih',zB,yP,Tryz.f158]
  |false=>
   simp only[Ap,if_false];clear ih hcnt;obtain _|m:=m;omega;have loop_e:=fun {d:Int} {h:List Int}=> @aBV R L n m tab.length len tab d h k
   simp-implicitDefEqProofs (maxSteps:=9^7) (disch:=try exact Dz) only[↓DN,↓kAsg,↓kRet,UP,simprocAttr,↓loop_c,↓loop_e,zB,yP,Tryz.f158]
theorem aJA(hn:4<=n)(hL:2^60<=L){tab:List (List (List Int))}{aL:Nat}(ht:BU tab aL)(htt:aL<=65536)(dist:List Int)(hd:dist.length=aL):
  aA env L n 158 [.d (.ivs tab.length (tabD tab)),.sl 0 0 0 dist.length] [.arr (ints dist) 1 0]=some (.tup [],[.arr (ints (dJ tab (aL+1) 1 dist)) 1 0]):=by
 have hcl:dist.countP (·<0)<aL+1:=by have:=List.countP_le_length (p:=(·<0)) (l:=dist);omega
 have loop_c:=fun {R n k} hn=> @aBv R L n hn hL tab aL ht htt k (aL+1) 1 L dist aL hcl om om om hd rfl;rw[hd];generalize dJ tab (aL+1) 1 dist=w at *;obtain _|n:=n;omega
 simp-implicitDefEqProofs (maxSteps:=9^7) (disch:=try exact Dz) only[↓DN,↓kAsg,UP,simprocAttr,↓loop_c,aKr,aBn,Tryz.f158]
theorem X9(hn:3<=n)(hL:2^60<=L){tab:List (List (List Int))}{dist at_ list:List Int}{d kk:Int}{ii:Nat}(hdl:dist.length<=65536)(hll:list.length<=4294967290)(hr:∀x∈list,0<=x/\x<dist.length){k:KE R}:∀(j p m:Nat) (o:List Int) (len:Nat) (hp:p+j=list.length) (hm:j<m) (hlen:len=o.length) (ho:o.length+j<=4294967290),
  aS env (aA env L n) L 0 [] Bz25 (pF 1) (Z4 (Z1 (U4 (U1 (Z4 (Z1 (U32 (U16 (U1 ([])))))))))) m (.d (.ivs tab.length (tabD tab))::.d (.ivs dist.length (ints dist))::.d (.ivs at_.length (ints at_))::nI kk::nI d::Y4 (Y1 (.d .nils::.sl 0 0 0 len::nI ii::.d (.ivs list.length (ints list))::nI p::Y32 (Y16 (Y1 ([])))))) [.arr (ints o) 1 0] k
  =k (.exit 2) (.d (.ivs tab.length (tabD tab))::.d (.ivs dist.length (ints dist))::.d (.ivs at_.length (ints at_))::nI kk::nI d::Y4 (Y1 (.d .nils::.sl 0 0 0 (addC dist d (list.drop p) o).length::nI ii::.d (.ivs list.length (ints list))::nI (list.length)::Y32 (Y16 (Y1 ([])))))) [.arr (ints (addC dist d (list.drop p) o)) 1 0]:=by
 intro j
 induction j with
 |zero=>
  intro p m o len hp hm hlen ho;obtain _|m:=m;omega;obtain rfl:p=list.length:=om;subst hlen
  simp-implicitDefEqProofs (maxSteps:=9^7) (disch:=try exact Dz) only[↓DN,↓kRet,UP,simprocAttr,Ak,mV,nQ,Tryz.f160];simp[addC]
 |succ j ih=>
  intro p m o len hp hm hlen ho;obtain _|m:=m;omega;subst hlen;have hk:p<list.length:=om;have hc:(p:Int)<list.length:=om;have hp0:(0:Int)<=p:=om;obtain⟨r0,r1⟩:=hr _ (fO hk);have hk2:(list.getD p 0).toNat<dist.length:=om;rw[bP hk (d:=0)];simp only[addC]
  by_cases h1:dist.getD (list.getD p 0).toNat 0=d
  ·have kl_i:=@aOv L o (list.getD p 0) om hL
   by_cases h2:list.getD p 0∈o
   ·have ih':=ih (p+1) m o o.length om om rfl om;rw[cs1 p]at ih';rw[if_neg fun h=>h.2 h2];clear ih;rw[decide_eq_true h2]at kl_i
    simp-implicitDefEqProofs (maxSteps:=9^7) (disch:=try exact Dz) only[↓DN,↓kRet,UP,simprocAttr,↓Y5,hc,hp0,h1,↓kl_i,r0,r1,↓ih',mV,nQ,Tryz.f160]
   ·have ih':=ih (p+1) m (o++[list.getD p 0]) (o.length+1) om om sm (by rw[Ai,Ci];omega);rw[cs1 p]at ih';rw[if_pos ⟨h1,h2⟩];clear ih;rw[decide_eq_false h2]at kl_i
    simp-implicitDefEqProofs (maxSteps:=9^7) (disch:=try exact Dz) only[↓DN,↓kRet,UP,simprocAttr,↓Y5,hc,hp0,h1,↓kl_i,r0,r1,↓ih',mV,nQ,Tryz.f160]
  ·have ih':=ih (p+1) m o o.length om om rfl om;rw[cs1 p]at ih';rw[if_neg fun h=>h1 h.1];clear ih
   simp-implicitDefEqProofs (maxSteps:=9^7) (disch:=try exact Dz) only[↓DN,↓kRet,UP,simprocAttr,hc,hp0,h1,r0,r1,↓ih',mV,nQ,Tryz.f160]
theorem aAE{dist:List Int}{d:Int}:∀(ms out:List Int),(addC dist d ms out).length<=out.length+ms.length
 | [],out=>by simp[addC]
 |m::ms,out=>by
  unfold addC
  split
  ·have:=aAE (dist:=dist) (d:=d) ms (out++[m]);simp at this|-;omega
  ·have:=aAE (dist:=dist) (d:=d) ms out;simp at this|-;omega
theorem YG(hn:3<=n)(hL:2^60<=L){tab:List (List (List Int))}{dist at_:List Int}{d:Int}{kk aL:Nat}(ht:BU tab aL)(hd:dist.length=aL)(htt:aL<=65536)(hat:at_.length<=65536)(har:∀x∈at_,0<=x/\x<aL)(hkk:∀i,i<aL->kk<(tab.getD i []).length/\((tab.getD i []).getD kk []).length<=4096){k:KE R}:∀(j i m:Nat) (o:List Int) (len:Nat) (hp:i+j=at_.length) (hm:j<m) (hlen:len=o.length) (ho:o.length+j*4096<=2147483648),
  aS env (aA env L n) L 0 [] Bz25 (pF 0) (Z4 (Z1 (U4 (U1 (Z2 (Z1 (U32 (U16 (U2 (U1 ([]))))))))))) m (.d (.ivs tab.length (tabD tab))::.d (.ivs dist.length (ints dist))::.d (.ivs at_.length (ints at_))::nI kk::nI d::Y4 (Y1 (.d .nils::.sl 0 0 0 len::nI i::Y32 (Y16 (Y2 (Y1 ([]))))))) [.arr (ints o) 1 0] k
  =k (.exit 0) (.d (.ivs tab.length (tabD tab))::.d (.ivs dist.length (ints dist))::.d (.ivs at_.length (ints at_))::nI kk::nI d::Y4 (Y1 (.d .nils::.sl 0 0 0 (bF tab dist kk d (at_.drop i) o).length::nI (at_.length)::Y32 (Y16 (Y2 (Y1 ([]))))))) [.arr (ints (bF tab dist kk d (at_.drop i) o)) 1 0]:=by
 obtain⟨tl,ht⟩:=ht;intro j
 induction j with
 |zero=>
  intro i m o len hp hm hlen ho;obtain _|m:=m;omega;obtain rfl:i=at_.length:=om;subst hlen
  simp-implicitDefEqProofs (maxSteps:=9^7) (disch:=try exact Dz) only[↓DN,↓kRet,UP,simprocAttr,Ak,FU,A8,Tryz.f160];simp[bF]
 |succ j ih=>
  intro i m o len hp hm hlen ho;obtain _|m:=m;omega;subst hlen;have hk:i<at_.length:=om;have hc:(i:Int)<at_.length:=om;have hi0:(0:Int)<=i:=om;obtain⟨r0,r1⟩:=har _ (fO hk);have hk2:(at_.getD i 0).toNat<tab.length:=om;have hc2:at_.getD i 0<tab.length:=om;obtain⟨q1,q2⟩:=hkk (at_.getD i 0).toNat om;obtain⟨t1,t2⟩:=ht (at_.getD i 0).toNat om;have hc3:(kk:Int)<(tab.getD (at_.getD i 0).toNat []).length:=om;have hkk0:(0:Int)<=kk:=om
  have t3:=t2 ((tab.getD (at_.getD i 0).toNat []).getD kk []) (by
   rw[Aa (l:=tab.getD (at_.getD i 0).toNat []),Ae q1];exact Ba q1)
  rw[bP hk (d:=0)];simp only[bF];generalize hrow:tab.getD (at_.getD i 0).toNat []=row at *;generalize hli:row.getD kk []=li at *;rw[Nat.succ_mul]at ho;have loop_c:=fun {R n k} hn=> @X9 R L n hn hL tab dist at_ li d kk i om om (by rw[hd];exact t3.2) k li.length 0 L o o.length om om rfl om;simp only[Ax,Aw]at loop_c;have hal:=aAE (dist:=dist) (d:=d) li o;have ih':=ih (i+1) m (addC dist d li o) _ om om rfl om;rw[cs1 i]at ih';clear ih hkk ht t2 t3;generalize addC dist d li o=w at *
  simp-implicitDefEqProofs (maxSteps:=9^7) (disch:=try exact Dz) only[↓DN,↓kAsg,↓kRet,UP,simprocAttr,TE,LA,hc,hi0,hc2,r0,hc3,hkk0,hrow,hli,↓loop_c,↓ih',FU,A8,Tryz.f160]
theorem vS(hn:4<=n)(hL:2^60<=L){tab:List (List (List Int))}{dist at_:List Int}{d:Int}{kk aL:Nat}(ht:BU tab aL)(hd:dist.length=aL)(htt:aL<=65536)(hat:at_.length<=65536)(har:∀x∈at_,0<=x/\x<aL)(hkk:∀i,i<aL->kk<(tab.getD i []).length/\((tab.getD i []).getD kk []).length<=4096):
  aA env L n 160 [.d (.ivs tab.length (tabD tab)),.d (.ivs dist.length (ints dist)),.d (.ivs at_.length (ints at_)),nI kk,nI d] []=some (.d (.ivs (bF tab dist kk d at_ []).length (ints (bF tab dist kk d at_ []))),[]):=by
 have loop_c:=fun {R n k} hn=> @YG R L n hn hL tab dist at_ d kk aL ht hd htt hat har hkk k at_.length 0 L [] 0 om om rfl (by simp;omega);simp only[Ax,Aw,gY]at loop_c;generalize bF tab dist kk d at_ []=w at *;have e4:(ints w).take w.length=ints w:=eW (Ad _);clear hkk har ht;obtain _|n:=n;omega
 simp-implicitDefEqProofs (maxSteps:=9^7) (disch:=try exact Dz) only[↓DN,↓kAsg,↓kRet,UP,simprocAttr,↓loop_c,e4,aGh,VE,Tryz.f160]
end
theorem aZ{R:Type}{call:aX}{h:H}{f:FuncId}{args:List A}{c:List UInt8}{p q:Int}{r:A}{k:KA R}(hm:(env.hint f).mode=0)(ha:idsL args=[])(hr:idsA r=[])(he:call f (.ptr 0 0 0::args) [rdO c p]=some (r,[rdO c q])):
  aW env call (rdO c p::h) f (.ptr 0 0 0::args) k=k r (rdO c q::h):=by
 have hid:idsL (A.ptr 0 0 0::args)=[0]:=by simp[idsL,idsA,ha]
 have hre:aD aF (rdO c p::h) [0] []=[0]:=rfl;have hpk:pack (rdO c p::h) [0]=[rdO c p]:=rfl
 have hma:aE (aH [0]) (A.ptr 0 0 0::args)=A.ptr 0 0 0::args:=by
  simp only[aE,gB _ ha];rfl
 unfold aW;rw[hid,hre,hpk,hma]
 have hc:bV call env.hint [rdO c p] f (.ptr 0 0 0::args)=some (r,[rdO c q]):=by
  unfold bV;rw[hm];exact he
 rw[hc];have hcl:closed (rdO c p::h) [0] [0]=true:=rfl;simp only[Ac,Ab,Ad,hcl,and_self,if_true,nV r hr]
 congr 1
 simp[bE,mapO,aE,mapA]
theorem aBA:(env.hint 72).mode=0:=kr
theorem aLt{a b:Int}(ha:0<=a)(ha2:a<2^62)(hb:0<=b)(hb2:b<2^62):0<=iXor .i64 a b/\iXor .i64 a b<2^62:=by
 obtain⟨m,rfl⟩:=Do ha;obtain⟨n,rfl⟩:=Do hb;have hm:m<2^62:=om;have hn:n<2^62:=om
 have hx:(BitVec.ofInt 64 (m:Int)^^^BitVec.ofInt 64 (n:Int)).toNat=m^^^n:=by
  rw[BitVec.toNat_xor]
  congr 1<;>(simp only[BitVec.ofInt_natCast,BitVec.toNat_ofNat];omega)
 have hlt:m^^^n<2^62:=Nat.xor_lt_two_pow hm hn;unfold iXor;have:(BitVec.ofInt IntKind.i64.bits (m:Int)^^^BitVec.ofInt IntKind.i64.bits (n:Int)).toNat=m^^^n:=hx;rw[this,dM om om];omega
theorem cL{c:List UInt8}(hc:c.length<=2000)(p b:Int)(hp:0<=p)(hp2:p<=1000000000):∃v:Int,0<=v/\(1<=b->v<b)/\(b<1->v=0)/\(Dw 1 72 [nI b] (nI v) c p (p+1)):=by
 by_cases h1:b<1
 ·refine⟨0,by omega,by omega,by omega,fun R L n hq k hn hL=>aZ aBA rfl rfl ?_⟩;obtain _|n:=n;omega
  simp-implicitDefEqProofs (maxSteps:=9^7) (disch:=try exact Dz) only[↓DN,↓kAsg,↓kRet,UP,simprocAttr,h1,qK,m9,Tryz.f72]
 ·by_cases h2:c.length=0
  ·refine⟨0,by omega,by omega,by omega,fun R L n hq k hn hL=>aZ aBA rfl rfl ?_⟩;have h2':(c.length:Int)=0:=om;obtain _|n:=n;omega
   simp-implicitDefEqProofs (maxSteps:=9^7) (disch:=try exact Dz) only[↓DN,↓kAsg,↓kRet,UP,simprocAttr,h1,h2',qK,m9,Tryz.f72]
  ·have h2':¬(c.length:Int)=0:=om
   by_cases h3:p<c.length
   ·have hb:b≠0:=om;have t0:0<=((c.getD p.toNat 0).toNat:Int).tmod b:=Int.tmod_nonneg b om;have t1:((c.getD p.toNat 0).toNat:Int).tmod b<b:=Int.tmod_lt_of_pos _ om;refine⟨((c.getD p.toNat 0).toNat:Int).tmod b,t0,fun _=>t1,by omega,fun R L n hq k hn hL=>aZ aBA rfl rfl ?_⟩;have e1:p+1-1=p:=om;obtain _|n:=n;omega
    simp-implicitDefEqProofs (maxSteps:=9^7) (disch:=try exact Dz) only[↓DN,↓kAsg,↓kRet,UP,simprocAttr,h1,h2',e1,h3,qK,m9,Tryz.f72]
   ·have e1:p+1-1=p:=om;have hl1:(0:Int)<c.length:=om;have q1:0<=p.tmod c.length:=Int.tmod_nonneg _ hp;have q2:p.tmod c.length<c.length:=Int.tmod_lt_of_pos _ hl1;have q3:0<=(p*7+3).tmod c.length:=Int.tmod_nonneg _ om;have q4:(p*7+3).tmod c.length<c.length:=Int.tmod_lt_of_pos _ hl1;have q5:0<=p.tdiv c.length:=Cl hp om;have q6:p.tdiv c.length<=p:=Ec _ hp;have b1:=toNat_lt (c.getD (p.tmod c.length).toNat 0);have b2:=toNat_lt (c.getD ((p*7+3).tmod c.length).toNat 0);have r1:(p.tmod c.length).toNat<c.length:=om;have r2:((p*7+3).tmod c.length).toNat<c.length:=om;obtain⟨x,hx⟩:∃x:Int,x=((c.getD (p.tmod c.length).toNat 0).toNat:Int)*131+((c.getD ((p*7+3).tmod c.length).toNat 0).toNat:Int)*1117+p*29+p.tdiv c.length*53:=⟨_,rfl⟩
    have x0:0<=x:=om;have x1:x<2^62:=om;have y0:0<=x.tdiv 64:=Cl x0 om;have y1:x.tdiv 64<2^62:=by have:=Ec 64 x0;omega
    have z:=aLt x0 x1 y0 y1;have hb:b≠0:=om;have t0:0<=(iXor .i64 x (x.tdiv 64)).tmod b:=Int.tmod_nonneg b z.1;have t1:(iXor .i64 x (x.tdiv 64)).tmod b<b:=Int.tmod_lt_of_pos _ om;refine⟨(iXor .i64 x (x.tdiv 64)).tmod b,t0,fun _=>t1,by omega,fun R L n hq k hn hL=>aZ aBA rfl rfl ?_⟩;clear b1 b2 z t0 t1;have b1:=toNat_lt (c.getD (p.tmod c.length).toNat 0);have b2:=toNat_lt (c.getD ((p*7+3).tmod c.length).toNat 0);subst hx;obtain _|n:=n;omega
    simp-implicitDefEqProofs (maxSteps:=9^7) (disch:=try exact Dz) only[↓DN,↓kAsg,↓kRet,UP,simprocAttr,h1,h2',e1,h3,qK,m9,Tryz.f72]
theorem aSV:(env.hint 74).mode=0:=kr
theorem m_of:(env.hint 207).mode=0:=kr
theorem aPX:(env.hint 195).mode=0:=kr
theorem PB:(env.hint 81).mode=0:=kr
theorem aNg{R:Type}{call:aX}{hq:H}{f:FuncId}{c:List UInt8}{p q:Int}{r:A}{k:KA R}{cs:List D}{e g n id:Nat}(hi:hq[id]? =some (.arr cs e g))(hm:(env.hint f).mode=0)(hr:idsA r=[])(he:call f [.ptr 0 0 0,.sl 1 g 0 n] [rdO c p,.arr cs e g]=some (r,[rdO c q,.arr cs e g])):
  aW env call (rdO c p::hq) f [.ptr 0 0 0,.sl (id+1) g 0 n] k=k r (rdO c q::hq):=by
 have hlk:(rdO c p::hq)[id+1]? =some (.arr cs e g):=by rw[Av];exact hi
 have hre:aD aF (rdO c p::hq) [0,id+1] []=[0,id+1]:=by
  have e1:aD aF (rdO c p::hq) [0,id+1] []=aD (aF-1) (rdO c p::hq) [id+1] [0]:=rfl
  have e2:aD (aF-1) (rdO c p::hq) [id+1] [0]=if [0].contains (id+1)=true then aD (aF-2) (rdO c p::hq) [] [0]else match(rdO c p::hq)[id+1]? with
   |some (.box cs)=>aD (aF-2) (rdO c p::hq) ([]++idsL cs) ([0]++[id+1])
   |some (.vec cs _ _)=>aD (aF-2) (rdO c p::hq) ([]++idsL cs) ([0]++[id+1])
   |some .void=>aD (aF-2) (rdO c p::hq) [] [0]
   |some _=>aD (aF-2) (rdO c p::hq) [] ([0]++[id+1])
   |none=>aD (aF-2) (rdO c p::hq) [] [0]:=rfl
  have e3:[0].contains (id+1)=false:=sm;rw[e1,e2,e3,hlk];rfl
 have hpk:pack (rdO c p::hq) [0,id+1]=[rdO c p,.arr cs e g]:=by
  simp only[pack,Af,Al,Aa,hlk]<;>rfl
 unfold aW;have hid:idsL [A.ptr 0 0 0,A.sl (id+1) g 0 n]=[0,id+1]:=rfl;rw[hid,hre,hpk]
 have hma:aE (aH [0,id+1]) [A.ptr 0 0 0,A.sl (id+1) g 0 n]=[A.ptr 0 0 0,A.sl 1 g 0 n]:=by
  simp[aE,mapA,aH]
 rw[hma]
 have hc:bV call env.hint [rdO c p,.arr cs e g] f [.ptr 0 0 0,.sl 1 g 0 n]=some (r,[rdO c q,.arr cs e g]):=by
  unfold bV;rw[hm];exact he
 rw[hc]
 have hcl:closed (rdO c p::hq) [0,id+1] [0,id+1]=true:=by
  simp only[closed,Bp,Cc,hlk,Ch];simp[idsL,idsA]
 simp only[Ac,Ab,Ad,hcl,and_self,if_true,nV r hr]
 congr 1
 simp only[bE,mapO,aE,mapA,Al,Ah,Ce,By]
 congr 1
 exact aRW hi
theorem aHe{α:Type}{l:List α}{k:Nat}{d:α}(h:k<l.length):l.getD k d∈l:=by
 rw[Aa,Ae h];exact Ba h
theorem aSL{c:List UInt8}(hc:c.length<=2000)(l:List Int)(g:Nat)(hl:0<l.length)(hl2:l.length<1000)(p:Int)(hp:0<=p)(hp2:p<=1000000000):∃v:Int,v∈l/\∀(L n:Nat),2<=n->2^60<=L->aA env L n 74 [.ptr 0 0 0,.sl 1 g 0 l.length] [rdO c p,.arr (ints l) 1 g]=some (nI v,[rdO c (p+1),.arr (ints l) 1 g]):=by
 obtain⟨v,v0,v1,_,kd⟩:=cL hc p l.length hp hp2;have v1:=v1 om;have hk:v.toNat<l.length:=om;refine⟨l.getD v.toNat 0,aHe hk,fun L n hn hL=> ?_⟩;obtain _|n:=n;omega
 simp-implicitDefEqProofs (maxSteps:=9^7) (disch:=try exact Dz) only[↓DN,↓kAsg,↓kRet,UP,simprocAttr,↓kd,aEr,QO,Tryz.f74]
theorem eY{c:List UInt8}(hc:c.length<=2000)(l:List Int)(hl:0<l.length)(hl2:l.length<1000)(p:Int)(hp:0<=p)(hp2:p<=1000000000):∃v:Int,v∈l/\(∀(R:Type) (L n id:Nat) (hq:H) (k:KA R),2<=n->2^60<=L->hq[id]? =some (.arr (ints l) 1 0)->aW env (aA env L n) (rdO c p::hq) 74 [.ptr 0 0 0,.sl (id+1) 0 0 l.length] k=k (nI v) (rdO c (p+1)::hq)):=by
 obtain⟨v,hv,he⟩:=aSL hc l 0 hl hl2 p hp hp2;exact⟨v,hv,fun R L n id hq k hn hL hi=>aNg hi aSV rfl (he L n hn hL)⟩
def XN(l:List (List UInt8)):List D:=l.map .str
theorem aHf{l:List (List UInt8)}:(XN l).length=l.length:=by simp[XN]
theorem aLL{l:List (List UInt8)}{k:Nat}(h:k<l.length):(((XN l).drop k).map A.d).head? =some (.d (.str (l.getD k []))):=by
 rw[List.head?_map,Dc,XN,Bb,Aa,Ae h];rfl
theorem aSv{c:List UInt8}(hc:c.length<=2000)(l:List (List UInt8))(hl:0<l.length)(hl2:l.length<1000)(p:Int)(hp:0<=p)(hp2:p<=1000000000):∃v:List UInt8,v∈l/\(Dw 2 207 [.d (.ivs l.length (XN l))] (.d (.str v)) c p (p+1)):=by
 obtain⟨v,v0,v1,_,kd⟩:=cL hc p l.length hp hp2;have v1:=v1 om;have hk:v.toNat<l.length:=om;refine⟨l.getD v.toNat [],aHe hk,fun R L n hq k hn hL=>aZ m_of rfl rfl ?_⟩;obtain _|n:=n;omega
 simp-implicitDefEqProofs (maxSteps:=9^7) (disch:=try exact Dz) only[↓DN,↓kAsg,↓kRet,UP,simprocAttr,↓kd,aHf,aLL,aGO,UK,Tryz.f207]
theorem aNc{c:List UInt8}(hc:c.length<=2000)(p:Int)(hp:0<=p)(hp2:p<=1000000000):∃v:Int,v∈[3,7,1,5,0,6,63,2,(21:Int)]/\(Dw 3 195 [] (nI v) c p (p+1)):=by
 obtain⟨v,hv,kd⟩:=eY hc [3,7,1,5,0,6,63,2,21] sm sm p hp hp2;simp only[ints,Af,Al,Ac,Ab,Ag,Nat.reduceAdd]at kd;refine⟨v,hv,fun R L n hq k hn hL=>aZ aPX rfl rfl ?_⟩;obtain _|n:=n;omega
 simp-implicitDefEqProofs (maxSteps:=9^7) (disch:=try exact Dz) only[↓DN,↓kAsg,↓kRet,UP,simprocAttr,↓kd,aKi,aDa,Tryz.f195]
theorem Z0{L n:Nat}(hn:1<=n)(l:Int)(h0:0<=l)(h:l<=5):aA env L n 161 [nI l] []=some (.d (.str [gC l]),[]):=by
 have e:IntKind.u8.wrap (97+l)=((gC l).toNat:Int):=aFb h0 h;have e2:[D.int .u8 ((gC l).toNat:Int)]=a7 [gC l]:=rfl;obtain _|n:=n;omega
 simp-implicitDefEqProofs (maxSteps:=9^7) (disch:=try exact Dz) only[↓DN,↓kAsg,↓kRet,UP,simprocAttr,e,e2,↓sY,aJQ,aB1,Tryz.f161]
theorem ZI:type_of% fun {L} l h0 h=>ks fun hn=> @Z0 L _ hn l h0 h:=fun {L} l h0 h=>ks fun hn=> @Z0 L _ hn l h0 h
section
structure PStep where
 par:Int
 lt:Int
 ns:List Int
instance:Inhabited PStep:=⟨⟨0,0,[]⟩⟩
def visG(gl:Int->Bool):List Int->List Bool->List Int->Bool->List Bool×List Int×Bool
 | [],s,f,b=>(s,f,b)
 |n::ns,s,f,b=>if s.getD n.toNat false=true then visG gl ns s f b else visG gl ns (s.set n.toNat true) (f++[n]) (b||gl n)
def addP(st:List PStep)(p l:Int)(f:List Int):List PStep:=if f=[]then st else st++[⟨p,l,f⟩]
def flat(nx:Int->Int->List Int)(ns:List Int)(l:Int):List Int:=ns.flatMap fun n=>nx n l
def ltG(nx:Int->Int->List Int)(gl:Int->Bool)(ns:List Int)(p:Int):List Int->List Bool×List PStep->Bool×List Bool×List PStep
 | [],q=>(false,q)
 |l::ls,q=>
  if(visG gl (flat nx ns l) q.1 [] false).2.2=true then(true,(visG gl (flat nx ns l) q.1 [] false).1,addP q.2 p l (visG gl (flat nx ns l) q.1 [] false).2.1)
  else ltG nx gl ns p ls ((visG gl (flat nx ns l) q.1 [] false).1,addP q.2 p l (visG gl (flat nx ns l) q.1 [] false).2.1)
def outG(nx:Int->Int->List Int)(gl:Int->Bool)(ls:List Int):Nat->Nat->List Bool×List PStep->Bool×List Bool×List PStep
 |0,_,q=>(false,q)
 |j+1,i,q=>if i<q.2.length then
   (if(ltG nx gl (q.2.getD i default).ns i ls q).1=true then ltG nx gl (q.2.getD i default).ns i ls q
    else outG nx gl ls j (i+1) (ltG nx gl (q.2.getD i default).ns i ls q).2)
  else(false,q)
def gQ(st:List PStep):Nat->Nat->List Int
 |0,_=>[]
 |j+1,i=>if 0<=(st.getD i default).par then gQ st j (st.getD i default).par.toNat++[(st.getD i default).lt]else []
def QK(nx:Int->Int->List Int)(gl:Int->Bool)(ls start:List Int)(size:Nat):List Int×Bool:=
 if(visG gl start (List.replicate size false) [] false).2.2=true then([],true)
 else if(outG nx gl ls (size+1) 0 ((visG gl start (List.replicate size false) [] false).1,addP [] (-1) 0 (visG gl start (List.replicate size false) [] false).2.1)).1=true then
  (gQ (outG nx gl ls (size+1) 0 ((visG gl start (List.replicate size false) [] false).1,addP [] (-1) 0 (visG gl start (List.replicate size false) [] false).2.1)).2.2
   (outG nx gl ls (size+1) 0 ((visG gl start (List.replicate size false) [] false).1,addP [] (-1) 0 (visG gl start (List.replicate size false) [] false).2.1)).2.2.length
   ((outG nx gl ls (size+1) 0 ((visG gl start (List.replicate size false) [] false).1,addP [] (-1) 0 (visG gl start (List.replicate size false) [] false).2.1)).2.2.length-1),true)
 else([],false)
def Sn(s:List Bool)(n:Int):Prop:=s.getD n.toNat false=true
theorem aSz{s:List Bool}{n m:Int}(h0:0<=n)(h1:n<s.length)(hm:0<=m):Sn (s.set n.toNat true) m↔m=n\/Sn s m:=by
 unfold Sn;rw[Aa,Aa,Cu]
 by_cases h:n.toNat=m.toNat
 ·have:m=n:=om;subst this;simp[show m.toNat<s.length by omega]
 ·have:m≠n:=om;simp[h,this]
structure Vis(gl:Int->Bool)(ns:List Int)(s:List Bool)(f:List Int)(b:Bool)(r:List Bool×List Int×Bool):Prop where
 seen:∀m,0<=m->(Sn r.1 m↔Sn s m\/m∈ns)
 new:∀m,m∈r.2.1↔m∈f\/(m∈ns/\¬Sn s m)
 hit:r.2.2=true↔b=true\/∃m,m∈ns/\¬Sn s m/\gl m=true
 cnt:r.2.1.length+r.1.count false=f.length+s.count false
 len:r.1.length=s.length
theorem aBH:∀ {s:List Bool} {k:Nat},s.getD k false=false->k<s.length->(s.set k true).count false+1=s.count false
 | [],k,h,hk=>by simp at hk
 |b::s,0,h,hk=>by
  simp at h;subst h;simp
 |b::s,k+1,h,hk=>by
  have ih:=aBH (s:=s) (k:=k) (by simpa using h) (by simpa using hk);simp only[By,List.count_cons];omega
theorem aC8(gl:Int->Bool):∀(ns:List Int) (s:List Bool) (f:List Int) (b:Bool),(∀n∈ns,0<=n/\n<s.length)->Vis gl ns s f b (visG gl ns s f b)
 | [],s,f,b,_=>⟨by simp[visG],by simp[visG],by simp[visG],rfl,rfl⟩
 |n::ns,s,f,b,h=>by
  have h2:=h n Bg;unfold visG
  split
  ·rename_i h1
   have ih:=aC8 gl ns s f b fun m hm=>h m (Bc _ hm);refine⟨fun m hm=> ?_,fun m=> ?_,?_,ih.cnt,ih.len⟩
   ·rw[ih.seen m hm]
    constructor
    ·rintro(k|k)
     ·exact .inl k
     ·exact .inr (Bc _ k)
    ·rintro(k|k)
     ·exact .inl k
     ·rcases Au.1 k with rfl|k
      ·exact .inl h1
      ·exact .inr k
   ·rw[ih.new m]
    constructor
    ·rintro(k|⟨k,k2⟩)
     ·exact .inl k
     ·exact .inr ⟨Bc _ k,k2⟩
    ·rintro(k|⟨k,k2⟩)
     ·exact .inl k
     ·rcases Au.1 k with rfl|k
      ·exact(k2 h1).elim
      ·exact .inr ⟨k,k2⟩
   ·rw[ih.hit]
    constructor
    ·rintro(k|⟨m,k,k2⟩)
     ·exact .inl k
     ·exact .inr ⟨m,Bc _ k,k2⟩
    ·rintro(k|⟨m,k,k2⟩)
     ·exact .inl k
     ·rcases Au.1 k with rfl|k
      ·exact(k2.1 h1).elim
      ·exact .inr ⟨m,k,k2⟩
  ·rename_i h1
   have ih:=aC8 gl ns (s.set n.toNat true) (f++[n]) (b||gl n) fun m hm=>by simpa using h m (Bc _ hm)
   have hpos:∀m∈ns,0<=m:=fun m hm=>(h m (Bc _ hm)).1;have hs:=fun {m:Int} (hm:0<=m)=>aSz (s:=s) (n:=n) (m:=m) h2.1 h2.2 hm;refine⟨fun m hm=> ?_,fun m=> ?_,?_,?_,?_⟩
   ·rw[ih.seen m hm,hs hm,Au]
    constructor
    ·rintro((k|k)|k)
     ·exact .inr (.inl k)
     ·exact .inl k
     ·exact .inr (.inr k)
    ·rintro(k|k|k)
     ·exact .inl (.inr k)
     ·exact .inl (.inl k)
     ·exact .inr k
   ·rw[ih.new m,Aq,Bi,Au]
    constructor
    ·rintro((k|rfl)|⟨k,k2⟩)
     ·exact .inl k
     ·exact .inr ⟨.inl rfl,h1⟩
     ·rw[hs (hpos m k)]at k2;exact .inr ⟨.inr k,fun h3=>k2 (.inr h3)⟩
    ·rintro(k|⟨rfl|k,k2⟩)
     ·exact .inl (.inl k)
     ·exact .inl (.inr rfl)
     ·by_cases hmn:m=n
      ·exact .inl (.inr hmn)
      ·refine .inr ⟨k,fun h3=> ?_⟩;rw[hs (hpos m k)]at h3
       rcases h3 with h3|h3
       ·exact hmn h3
       ·exact k2 h3
   ·rw[ih.hit,Bool.or_eq_true]
    constructor
    ·rintro((k|k)|⟨m,k,k2,k3⟩)
     ·exact .inl k
     ·exact .inr ⟨n,Bg,h1,k⟩
     ·rw[hs (hpos m k)]at k2;exact .inr ⟨m,Bc _ k,fun h3=>k2 (.inr h3),k3⟩
    ·rintro(k|⟨m,k,k2,k3⟩)
     ·exact .inl (.inl k)
     ·by_cases hmn:m=n
      ·subst hmn;exact .inl (.inr k3)
      ·rcases Au.1 k with k|k
       ·exact(hmn k).elim
       ·refine .inr ⟨m,k,fun h3=> ?_,k3⟩;rw[hs (hpos m k)]at h3
        rcases h3 with h3|h3
        ·exact hmn h3
        ·exact k2 h3
   ·have:=aBH (s:=s) (k:=n.toNat) (by simpa using h1) om;have hc:=ih.cnt;simp only[Ai,Ac,Ab]at hc;omega
   ·have:=ih.len
    simpa using this
section
variable{nx:Int->Int->List Int}{gl:Int->Bool}{ls start:List Int}{size:Nat}
def Asc(l:List Int):Prop:=l.Pairwise (·<·)
structure Mid(nx:Int->Int->List Int)(gl:Int->Bool)(ls start:List Int)(size:Nat)(i:Nat)(ds:List Int)(s:List Bool)(st:List PStep)(W:Nat->List Int):Prop where
 len:s.length=size
 room:st.length+s.count false<=size
 wide:∀k,k<st.length->(st.getD k default).ns.length<=size
 par0:∀k,k<st.length->((st.getD k default).par<0/\W k=[])\/(∃p:Nat,(st.getD k default).par=p/\p<k/\(p<i\/p=i/\(st.getD k default).lt∈ds)/\W k=W p++[(st.getD k default).lt])
 nodes:∀k,k<st.length->∀n∈(st.getD k default).ns,vI nx ls start (W k) n/\Sn s n/\(0<=n/\n<size)
 all:∀n,0<=n->Sn s n->∃k,k<st.length/\n∈(st.getD k default).ns
 asc:∀j k,j<k->k<st.length->slt (W j) (W k)
 least:∀k,k<st.length->∀n∈(st.getD k default).ns,∀w,vI nx ls start w n->¬slt w (W k)
 none:∀n,0<=n->Sn s n->gl n=false
 begun:∀n∈start,Sn s n
 done:∀k,k<st.length->∀p∈(st.getD k default).ns,∀l∈ls,(k<i\/k=i/\l∈ds)->∀m∈nx p l,Sn s m
theorem LT{n:Int}:vI nx ls start [] n↔n∈start:=by
 unfold vI Path
 constructor
 ·rintro⟨s,h,rfl⟩;exact h
 ·intro h;exact⟨n,h,rfl⟩
theorem QI{w:List Int}{l n:Int}:vI nx ls start (w++[l]) n↔l∈ls/\∃m,vI nx ls start w m/\n∈nx m l:=by
 unfold vI
 constructor
 ·rintro⟨s,h,k⟩;obtain⟨h1,m,h2,h3⟩:=aFH.1 k;exact⟨h1,m,⟨s,h,h2⟩,h3⟩
 ·rintro⟨h1,m,⟨s,h,h2⟩,h3⟩;exact⟨s,h,aFH.2 ⟨h1,m,h2,h3⟩⟩
theorem PM(w:List Int):w=[]\/∃u l,w=u++[l]:=by
 rcases List.eq_nil_or_concat w with h|⟨u,l,h⟩
 ·exact .inl h
 ·exact .inr ⟨u,l,by simpa using h⟩
theorem aLX{i:Nat}{ds:List Int}{l:Int}{rs:List Int}{s:List Bool}{st:List PStep}{W:Nat->List Int}(hm:Mid nx gl ls start size i ds s st W)(hi:i<st.length)(hls:ls=ds++l::rs)(ha:Asc ls)(hnx:∀p c:Int,0<=p->p<size->c∈ls->∀m∈nx p c,0<=m/\m<size)(hst:∀n∈start,0<=n/\n<size):
  ∀(q:Nat) (w:List Int),w.length=q->slt w (W i++[l])->∀n,vI nx ls start w n->Sn s n/\(0<=n/\n<size):=by
 intro q
 induction q with
 |zero=>
  intro w hw hlt n hc;have:w=[]:=Bs.1 hw;subst this;have:=LT.1 hc;exact⟨hm.begun n this,hst n this⟩
 |succ q ih=>
  intro w hw hlt n hc
  rcases PM w with rfl|⟨u,c,rfl⟩
  ·simp at hw
  obtain⟨hcl,p,hp,hn⟩:=QI.1 hc;have hul:u.length=q:=by simpa using hw
  have hu:slt u (W i++[l]):=JN (.inl sm) hlt;obtain⟨hps,hpr⟩:=ih u hul hu p hp;refine⟨?_,hnx p c hpr.1 hpr.2 hcl n hn⟩;obtain⟨k,hk,hpk⟩:=hm.all p hpr.1 hps;have hle:=hm.least k hk p hpk u hp;have h2:=PQ.1 hlt;refine hm.done k hk p hpk c hcl ?_ n hn
  rcases Nat.lt_trichotomy k i with h|h|h
  ·exact .inl h
  ·subst h;refine .inr ⟨rfl,?_⟩
   rcases h2 with h2|⟨_,h2⟩
   ·exact(hle h2).elim
   ·rw[hls]at hcl ha
    rcases Aq.1 hcl with h3|h3
    ·exact h3
    ·exfalso
     rcases Au.1 h3 with h4|h4
     ·omega
     ·have h5:=List.pairwise_append.1 ha;have:=(List.pairwise_cons.1 h5.2.1).1 c h4;omega
  ·exfalso;have h3:=hm.asc i k h hk
   rcases h2 with h2|⟨h2,_⟩
   ·exact hle (JN h2 h3)
   ·subst h2;exact hle h3
theorem iB{α:Type}{l m:List α}{i:Nat}{d:α}(h:i<l.length):(l++m).getD i d=l.getD i d:=by
 rw[Aa,Aa,Be h]
theorem xN{α:Type}{l:List α}{x d:α}:(l++[x]).getD l.length d=x:=by
 rw[Aa,Bq (Ad _)];simp
theorem aRC{i:Nat}{ds:List Int}{s:List Bool}{st:List PStep}{W:Nat->List Int}(hm:Mid nx gl ls start size i ds s st W):∀(j k:Nat),k<j->k<st.length->gQ st j k=W k:=by
 intro j
 induction j with
 |zero=>intro k hk;omega
 |succ j ih=>
  intro k hk hl;unfold gQ
  rcases hm.par0 k hl with⟨h1,h2⟩|⟨p,h1,h2,_,h3⟩
  ·rw[if_neg om,h2]
  ·rw[if_pos om,h1,Ct,ih p om om,h3]
theorem aPx{i:Nat}{ds:List Int}{l:Int}{rs:List Int}{s:List Bool}{st:List PStep}{W:Nat->List Int}(hm:Mid nx gl ls start size i ds s st W)(hi:i<st.length)(hls:ls=ds++l::rs)(ha:Asc ls)(hnx:∀p c:Int,0<=p->p<size->c∈ls->∀m∈nx p c,0<=m/\m<size)(hst:∀n∈start,0<=n/\n<size):
  ((visG gl (flat nx (st.getD i default).ns l) s [] false).2.2=true->J2 (Hits nx ls start gl) (W i++[l])/\(visG gl (flat nx (st.getD i default).ns l) s [] false).2.1≠[])/\
  ((visG gl (flat nx (st.getD i default).ns l) s [] false).2.2≠true->∃W',Mid nx gl ls start size i (ds++[l]) (visG gl (flat nx (st.getD i default).ns l) s [] false).1 (addP st i l (visG gl (flat nx (st.getD i default).ns l) s [] false).2.1) W'):=by
 have hll:l∈ls:=by rw[hls];simp
 have hreach:∀n∈flat nx (st.getD i default).ns l,vI nx ls start (W i++[l]) n/\(0<=n/\n<size):=by
  intro n hn;obtain⟨p,hp,hpn⟩:=Du.1 hn;obtain⟨h1,_,h3⟩:=hm.nodes i hi p hp;exact⟨QI.2 ⟨hll,p,h1,hpn⟩,hnx p l h3.1 h3.2 hll n hpn⟩
 have hv:=aC8 gl (flat nx (st.getD i default).ns l) s [] false fun n hn=>by rw[hm.len];exact(hreach n hn).2
 have hbef:=fun w=>aLX hm hi hls ha hnx hst w.length w rfl;generalize hns:flat nx (st.getD i default).ns l=ns at *;generalize hr:visG gl ns s [] false=r at *;obtain⟨s2,f,b⟩:=r;have v1:=hv.seen;have v2:∀m,m∈f↔m∈ns/\¬Sn s m:=fun m=>by have:=hv.new m;simpa using this
 have v3:b=true↔∃m,m∈ns/\¬Sn s m/\gl m=true:=by have:=hv.hit;simpa using this
 have v4:f.length+s2.count false=s.count false:=by have:=hv.cnt;simpa using this
 have v5:s2.length=s.length:=hv.len;simp only at v1|-
 constructor
 ·intro hb;obtain⟨m,h1,h2,h3⟩:=v3.1 hb;refine⟨⟨⟨m,(hreach m h1).1,h3⟩,?_⟩,?_⟩
  ·rintro x ⟨u,hu,hg⟩ hlt;obtain⟨k1,k2⟩:=hbef x hlt u hu;rw[hm.none u k2.1 k1]at hg;cases hg
  ·intro hf;have:=(v2 m).2 ⟨h1,h2⟩;rw[hf]at this;cases this
 ·intro hb
  have hnone:∀n,0<=n->Sn s2 n->gl n=false:=by
   intro n hn hs
   rcases(v1 n hn).1 hs with h|h
   ·exact hm.none n hn h
   ·by_cases hs0:Sn s n
    ·exact hm.none n hn hs0
    ·cases hg:gl n with
     |false=>rfl
     |true=>exact(hb (v3.2 ⟨n,h,hs0,hg⟩)).elim
  have hsn:∀n,0<=n->Sn s n->Sn s2 n:=fun n hn h=>(v1 n hn).2 (.inl h)
  have hdone:∀p∈(st.getD i default).ns,∀m∈nx p l,Sn s2 m:=by
   intro p hp m hmm;have:m∈ns:=by rw[<-hns];exact Du.2 ⟨p,hp,hmm⟩
   exact(v1 m (hreach m this).2.1).2 (.inr this)
  unfold addP
  by_cases hf:f=[]
  ·rw[if_pos hf];subst hf;refine⟨W,⟨by rw[v5,hm.len],by have:=hm.room;simp at v4;omega,hm.wide,?_,?_,?_,hm.asc,hm.least,hnone,?_,?_⟩⟩
   ·intro k hk
    rcases hm.par0 k hk with h|⟨p,h1,h2,h3,h4⟩
    ·exact .inl h
    ·refine .inr ⟨p,h1,h2,?_,h4⟩
     rcases h3 with h3|⟨h3,h5⟩
     ·exact .inl h3
     ·exact .inr ⟨h3,List.mem_append_left _ h5⟩
   ·intro k hk n hn;obtain⟨h1,h2,h3⟩:=hm.nodes k hk n hn;exact⟨h1,hsn n h3.1 h2,h3⟩
   ·intro n hn hs
    rcases(v1 n hn).1 hs with h|h
    ·exact hm.all n hn h
    ·by_cases hs0:Sn s n
     ·exact hm.all n hn hs0
     ·have:=(v2 n).2 ⟨h,hs0⟩;cases this
   ·intro n hn;exact hsn n (hst n hn).1 (hm.begun n hn)
   ·intro k hk p hp c hc hor m hmm;have hpr:=(hm.nodes k hk p hp).2.2;have hmr:=hnx p c hpr.1 hpr.2 hc m hmm
    rcases hor with h|⟨h,h2⟩
    ·exact hsn m hmr.1 (hm.done k hk p hp c hc (.inl h) m hmm)
    ·rcases Aq.1 h2 with h3|h3
     ·exact hsn m hmr.1 (hm.done k hk p hp c hc (.inr ⟨h,h3⟩) m hmm)
     ·simp at h3;subst h3;subst h;exact hdone p hp m hmm
  ·rw[if_neg hf];have hfl:0<f.length:=Ed.2 hf;refine⟨fun k=>if k=st.length then W i++[l]else W k,?_⟩;have hold:∀k,k<st.length->(st++[(⟨i,l,f⟩:PStep)]).getD k default=st.getD k default:=fun k hk=>iB hk;have hnew:(st++[(⟨i,l,f⟩:PStep)]).getD st.length default=⟨i,l,f⟩:=xN;have hlen:(st++[(⟨i,l,f⟩:PStep)]).length=st.length+1:=sm
   have hmax:∀k,k<st.length->slt (W k) (W i++[l]):=by
    intro k hk
    rcases hm.par0 k hk with⟨_,h⟩|⟨p,h1,h2,h3,h4⟩
    ·rw[h];exact .inl sm
    ·rw[h4,PQ]
     rcases h3 with h3|⟨h3,h5⟩
     ·exact .inl (hm.asc p i h3 hi)
     ·subst h3;refine .inr ⟨rfl,?_⟩;rw[hls]at ha;have h6:=List.pairwise_append.1 ha;exact h6.2.2 _ h5 l Bg
   refine⟨by rw[v5,hm.len],by have:=hm.room;rw[hlen];omega,?_,?_,?_,?_,?_,?_,hnone,?_,?_⟩
   ·intro k hk;rw[hlen]at hk
    by_cases h:k<st.length
    ·rw[hold k h];exact hm.wide k h
    ·obtain rfl:k=st.length:=om;rw[hnew];have:=List.count_le_length (a:=false) (l:=s);have:=hm.len;show f.length<=size;omega
   ·intro k hk;rw[hlen]at hk
    by_cases h:k<st.length
    ·rw[hold k h];simp only[show k≠st.length by omega,if_false]
     rcases hm.par0 k h with h0|⟨p,h1,h2,h3,h4⟩
     ·exact .inl h0
     ·refine .inr ⟨p,h1,h2,?_,?_⟩
      ·rcases h3 with h3|⟨h3,h5⟩
       ·exact .inl h3
       ·exact .inr ⟨h3,List.mem_append_left _ h5⟩
      ·rw[if_neg om];exact h4
    ·obtain rfl:k=st.length:=om;rw[hnew];refine .inr ⟨i,rfl,hi,.inr ⟨rfl,by simp⟩,?_⟩;simp only[if_true];rw[if_neg om]
   ·intro k hk n hn;rw[hlen]at hk
    by_cases h:k<st.length
    ·rw[hold k h]at hn;obtain⟨h1,h2,h3⟩:=hm.nodes k h n hn;simp only[show k≠st.length by omega,if_false];exact⟨h1,hsn n h3.1 h2,h3⟩
    ·obtain rfl:k=st.length:=om;rw[hnew]at hn;have h1:=((v2 n).1 hn).1;have h2:=hreach n h1;simp only[if_true];exact⟨h2.1,(v1 n h2.2.1).2 (.inr h1),h2.2⟩
   ·intro n hn hs
    by_cases hs0:Sn s n
    ·obtain⟨k,hk,h1⟩:=hm.all n hn hs0;exact⟨k,by omega,by rw[hold k hk];exact h1⟩
    ·rcases(v1 n hn).1 hs with h|h
     ·exact(hs0 h).elim
     ·exact⟨st.length,by omega,by rw[hnew];exact(v2 n).2 ⟨h,hs0⟩⟩
   ·intro j k hjk hk;rw[hlen]at hk
    by_cases h:k<st.length
    ·simp only[show k≠st.length by omega,show j≠st.length by omega,if_false];exact hm.asc j k hjk h
    ·obtain rfl:k=st.length:=om;simp only[show j≠st.length by omega,if_false,if_true];exact hmax j hjk
   ·intro k hk n hn w hw;rw[hlen]at hk
    by_cases h:k<st.length
    ·rw[hold k h]at hn;simp only[show k≠st.length by omega,if_false];exact hm.least k h n hn w hw
    ·obtain rfl:k=st.length:=om;rw[hnew]at hn;simp only[if_true];intro hlt;exact((v2 n).1 hn).2 (hbef w hlt n hw).1
   ·intro n hn;exact hsn n (hst n hn).1 (hm.begun n hn)
   ·intro k hk p hp c hc hor m hmm;rw[hlen]at hk
    by_cases h:k<st.length
    ·rw[hold k h]at hp;have hpr:=(hm.nodes k h p hp).2.2;have hmr:=hnx p c hpr.1 hpr.2 hc m hmm
     rcases hor with h1|⟨h1,h2⟩
     ·exact hsn m hmr.1 (hm.done k h p hp c hc (.inl h1) m hmm)
     ·rcases Aq.1 h2 with h3|h3
      ·exact hsn m hmr.1 (hm.done k h p hp c hc (.inr ⟨h1,h3⟩) m hmm)
      ·simp at h3;subst h3;subst h1;exact hdone p hp m hmm
    ·exfalso;omega
theorem aKq{i:Nat}(ha:Asc ls)(hnx:∀p c:Int,0<=p->p<size->c∈ls->∀m∈nx p c,0<=m/\m<size)(hst:∀n∈start,0<=n/\n<size){ns:List Int}:∀(rs ds:List Int) (s:List Bool) (st:List PStep) (W:Nat->List Int),Mid nx gl ls start size i ds s st W->i<st.length->ls=ds++rs->ns=(st.getD i default).ns->
  ((ltG nx gl ns i rs (s,st)).1=true->J2 (Hits nx ls start gl) (gQ (ltG nx gl ns i rs (s,st)).2.2 (ltG nx gl ns i rs (s,st)).2.2.length ((ltG nx gl ns i rs (s,st)).2.2.length-1)))/\
  ((ltG nx gl ns i rs (s,st)).1≠true->st.length<=(ltG nx gl ns i rs (s,st)).2.2.length/\∃W',Mid nx gl ls start size (i+1) [] (ltG nx gl ns i rs (s,st)).2.1 (ltG nx gl ns i rs (s,st)).2.2 W'):=by
 intro rs
 induction rs with
 |nil=>
  intro ds s st W hm hi hls hns;simp only[Ah]at hls;subst hls;refine⟨fun h=>by simp[ltG]at h,fun _=>⟨Ad _,W,hm.len,hm.room,hm.wide,?_,hm.nodes,hm.all,hm.asc,hm.least,hm.none,hm.begun,?_⟩⟩
  ·intro k hk
   rcases hm.par0 k hk with h0|⟨p,h1,h2,h3,h4⟩
   ·exact .inl h0
   ·exact .inr ⟨p,h1,h2,.inl om,h4⟩
  ·intro k hk p hp l hl hor m hmm
   rcases hor with h|⟨_,h⟩
   ·exact hm.done k hk p hp l hl (by by_cases hki:k=i;exact .inr ⟨hki,hl⟩;exact .inl om) m hmm
   ·cases h
 |cons l rs ih=>
  intro ds s st W hm hi hls hns;obtain⟨h1,h2⟩:=aPx hm hi hls ha hnx hst;rw[<-hns]at h1 h2;simp only[ltG]
  by_cases hb:(visG gl (flat nx ns l) s [] false).2.2=true
  ·simp only[hb,if_true];refine⟨fun _=> ?_,fun h=>(h rfl).elim⟩;obtain⟨k1,k2⟩:=h1 hb;unfold addP;rw[if_neg k2];simp only[Ai,Ac,Ab,Ag,Nat.add_sub_cancel]
   have hw:gQ (st++[⟨i,l,(visG gl (flat nx ns l) s [] false).2.1⟩]) (st.length+1) st.length=W i++[l]:=by
    unfold gQ;rw[xN];simp only[Ct];rw[if_pos om]
    congr 1
    have hpre:∀(j k:Nat),k<j->k<st.length->∀x,gQ (st++[x]) j k=gQ st j k:=by
     intro j
     induction j with
     |zero=>intro k hk;omega
     |succ j ihj=>
      intro k hk hl x;unfold gQ;rw[iB hl]
      rcases hm.par0 k hl with⟨h1,h2⟩|⟨p,h1,h2,_,h3⟩
      ·rw[if_neg om,if_neg om]
      ·rw[if_pos om,if_pos om,h1,Ct,ihj p om om]
    rw[hpre _ _ hi hi,aRC hm _ _ hi hi]
   rw[hw];exact k1
  ·simp only[hb];obtain⟨W',hm'⟩:=h2 hb
   have hle:st.length<=(addP st i l (visG gl (flat nx ns l) s [] false).2.1).length:=by
    unfold addP;split<;>simp
   have hget:ns=((addP st i l (visG gl (flat nx ns l) s [] false).2.1).getD i default).ns:=by
    rw[hns];unfold addP
    split
    ·rfl
    ·rw[iB hi]
   obtain⟨g1,g2⟩:=ih (ds++[l]) _ _ W' hm' om (by rw[hls];simp) hget;exact⟨g1,fun h=>⟨Bk hle (g2 h).1,(g2 h).2⟩⟩
theorem aMB(ha:Asc ls)(hnx:∀p c:Int,0<=p->p<size->c∈ls->∀m∈nx p c,0<=m/\m<size)(hst:∀n∈start,0<=n/\n<size):∀(j i:Nat) (s:List Bool) (st:List PStep) (W:Nat->List Int),Mid nx gl ls start size i [] s st W->i<=st.length->size+1<=i+j->
  ((outG nx gl ls j i (s,st)).1=true->J2 (Hits nx ls start gl) (gQ (outG nx gl ls j i (s,st)).2.2 (outG nx gl ls j i (s,st)).2.2.length ((outG nx gl ls j i (s,st)).2.2.length-1)))/\
  ((outG nx gl ls j i (s,st)).1≠true->∀w,¬Hits nx ls start gl w):=by
 have fin:∀(i:Nat) (s:List Bool) (st:List PStep) (W:Nat->List Int),Mid nx gl ls start size i [] s st W->¬i<st.length->∀w,¬Hits nx ls start gl w:=by
  intro i s st W hm hi w
  have key:∀(q:Nat) (w:List Int),w.length=q->∀n,vI nx ls start w n->Sn s n/\(0<=n/\n<size):=by
   intro q
   induction q with
   |zero=>
    intro w hw n hc;have:w=[]:=Bs.1 hw;subst this;have:=LT.1 hc;exact⟨hm.begun n this,hst n this⟩
   |succ q ih=>
    intro w hw n hc
    rcases PM w with rfl|⟨u,c,rfl⟩
    ·simp at hw
    obtain⟨hcl,p,hp,hn⟩:=QI.1 hc;obtain⟨h1,h2⟩:=ih u (by simpa using hw) p hp;obtain⟨k,hk,hpk⟩:=hm.all p h2.1 h1;exact⟨hm.done k hk p hpk c hcl (.inl om) n hn,hnx p c h2.1 h2.2 hcl n hn⟩
  rintro⟨u,hu,hg⟩;obtain⟨h1,h2⟩:=key w.length w rfl u hu;rw[hm.none u h2.1 h1]at hg;cases hg
 intro j
 induction j with
 |zero=>
  intro i s st W hm hi hj;have:=hm.room;exfalso;omega
 |succ j ih=>
  intro i s st W hm hi hj;simp only[outG]
  by_cases hlt:i<st.length
  ·simp only[hlt,if_true];obtain⟨h1,h2⟩:=aKq (ns:=(st.getD i default).ns) ha hnx hst ls [] s st W hm hlt rfl rfl
   by_cases hb:(ltG nx gl (st.getD i default).ns i ls (s,st)).1=true
   ·simp only[hb,if_true];exact⟨fun _=>h1 hb,fun h=>(h rfl).elim⟩
   ·simp only[hb];obtain⟨h3,W',hm'⟩:=h2 hb;exact ih (i+1) _ _ W' hm' (Bk hlt h3) om
  ·rw[if_neg hlt];exact⟨fun h=>Bool.noConfusion h,fun _=>fin i s st W hm hlt⟩
theorem aR8(ha:Asc ls)(hnx:∀p c:Int,0<=p->p<size->c∈ls->∀m∈nx p c,0<=m/\m<size)(hst:∀n∈start,0<=n/\n<size)(hne:start≠[]):XJ (Hits nx ls start gl) (QK nx gl ls start size):=by
 have hz:∀n,¬Sn (List.replicate size false) n:=by
  intro n;unfold Sn;rw[Aa,List.getElem?_replicate]
  split<;>simp
 have hv:=aC8 gl start (List.replicate size false) [] false fun n hn=>by simpa using hst n hn
 unfold QK;generalize visG gl start (List.replicate size false) [] false=r at *;obtain⟨s2,f,b⟩:=r;have v1:∀m,0<=m->(Sn s2 m↔m∈start):=fun m hm=>by have:=hv.seen m hm;simp only[hz,false_or]at this;exact this
 have v2:∀m,m∈f↔m∈start:=fun m=>by have:=hv.new m;simpa [hz]using this
 have v3:b=true↔∃m,m∈start/\gl m=true:=by have:=hv.hit;simpa [hz]using this
 have v4:f.length+s2.count false=size:=by have:=hv.cnt;simpa using this
 have v5:s2.length=size:=by have:=hv.len;simpa using this
 simp only
 by_cases hb:b=true
 ·rw[if_pos hb];obtain⟨m,h1,h2⟩:=v3.1 hb;refine .inl ⟨rfl,⟨m,LT.2 h1,h2⟩,fun x _ hx=> ?_⟩
  rcases hx with hx|⟨hx,hy⟩
  ·simp at hx
  ·have:x=[]:=Bs.1 (by simpa using hx);subst this;exact hy
 ·rw[if_neg hb]
  have hf:f≠[]:=by
   intro h;apply hne
   cases start with
   |nil=>rfl
   |cons a az=>
    have:=(v2 a).2 Bg;rw[h]at this;cases this
  have hfl:0<f.length:=Ed.2 hf;have hst1:addP [] (-1) 0 f=[⟨-1,0,f⟩]:=by unfold addP;rw[if_neg hf];rfl
  rw[hst1]
  have hm:Mid nx gl ls start size 0 [] s2 [⟨-1,0,f⟩] (fun _=>[]):=by
   refine⟨v5,by simp;omega,?_,?_,?_,?_,?_,?_,?_,?_,?_⟩
   ·intro k hk;obtain rfl:k=0:=by simpa using hk
    show f.length<=size;omega
   ·intro k hk;obtain rfl:k=0:=by simpa using hk
    exact .inl ⟨by show(-1:Int)<0;decide,rfl⟩
   ·intro k hk n hn;obtain rfl:k=0:=by simpa using hk
    have h1:=(v2 n).1 hn;have h2:=hst n h1;exact⟨LT.2 h1,(v1 n h2.1).2 h1,h2⟩
   ·intro n hn hs;exact⟨0,by simp,(v2 n).2 ((v1 n hn).1 hs)⟩
   ·intro j k hjk hk;simp at hk;omega
   ·intro k hk n hn w hw hlt
    rcases hlt with h|⟨h,h2⟩
    ·simp at h
    ·have:w=[]:=Bs.1 (by simpa using h);subst this;exact h2
   ·intro n hn hs
    cases hg:gl n with
    |false=>rfl
    |true=>exact(hb (v3.2 ⟨n,(v1 n hn).1 hs,hg⟩)).elim
   ·intro n hn;exact(v1 n (hst n hn).1).2 hn
   ·intro k hk p hp l hl hor m hmm;obtain rfl:k=0:=by simpa using hk
    rcases hor with h|⟨_,h⟩
    ·omega
    ·cases h
  obtain⟨g1,g2⟩:=aMB ha hnx hst (size+1) 0 s2 [⟨-1,0,f⟩] _ hm sm om
  by_cases ho:(outG nx gl ls (size+1) 0 (s2,[⟨-1,0,f⟩])).1=true
  ·rw[if_pos ho];exact .inl ⟨rfl,g1 ho⟩
  ·rw[if_neg ho];exact .inr ⟨rfl,g2 ho⟩
end
end
def swp(l:List UInt8)(i j:Nat):List UInt8:=(l.set i (l.getD j 0)).set j (l.getD i 0)
theorem BR(l:List UInt8)(i j:Nat):(swp l i j).length=l.length:=by simp[swp]
theorem aRr{l:List UInt8}{i j:Nat}(hi:i<l.length)(hj:j<l.length){b:UInt8}(h:b∈swp l i j):b∈l:=by
 unfold swp at h;have key:∀ {l':List UInt8} {k:Nat} {v b:UInt8},b∈l'.set k v->b∈l'\/b=v:=fun h=>Dx h
 have at':∀ {k:Nat},k<l.length->l.getD k 0∈l:=fun hk=>by
  rw[Aa,Ae hk];exact Ba hk
 rcases key h with h|h
 ·rcases key h with h|h
  ·exact h
  ·rw[h];exact at' hj
 ·rw[h];exact at' hi
def revG:Nat->Int->Int->List UInt8->Int×Int×List UInt8
 |0,i,j,l=>(i,j,l)
 |q+1,i,j,l=>if i<j then revG q (i+1) (j-1) (swp l i.toNat j.toNat)else(i,j,l)
theorem aDv:∀(q:Nat) (i j:Int) (l:List UInt8),0<=i->j<l.length->(revG q i j l).2.2.length=l.length/\∀b∈(revG q i j l).2.2,b∈l
 |0,i,j,l,_,_=>⟨rfl,fun b h=>h⟩
 |q+1,i,j,l,h0,h1=>by
  unfold revG
  split
  ·rename_i hlt
   have ih:=aDv q (i+1) (j-1) (swp l i.toNat j.toNat) om (by rw[BR];omega);rw[BR]at ih;exact⟨ih.1,fun b hb=>aRr om om (ih.2 b hb)⟩
  ·exact⟨rfl,fun b h=>h⟩
theorem aSf{call:aX}{thaw:List Nat}{dst:Option Tmp}{x y:Operand}{g k:Nat}{l:List UInt8}{b:UInt8}(hk:k<l.length):memD env call thaw dst (.store 5 x y) [.arr (a7 l) 1 g] [.ptr 0 g k,.d (.int .u8 (b.toNat:Int))]=some (.d .undef,[.arr (a7 (l.set k b)) 1 g],{ ids:=[0],ro:=false,wr:=[0]}):=by
 have hst:=aIA (h:=[]) (g:=g) (e:=1) (b:=b) hk;have e1:aD aF [O.arr (a7 l) 1 g] (idsL [.ptr 0 g k,.d (.int .u8 (b.toNat:Int))]) []=[0]:=rfl;have e2:pack [O.arr (a7 l) 1 g] [0]=[O.arr (a7 l) 1 g]:=rfl;have e3:aE (aH [0]) [.ptr 0 g k,.d (.int .u8 (b.toNat:Int))]=[.ptr 0 g k,.d (.int .u8 (b.toNat:Int))]:=rfl;unfold memD;rw[e1];simp only[box];rw[e2,e3];simp only[evOp,dW,two,hst,Ay]<;>rfl
theorem aOR{R:Type}{L n g:Nat}{k:KE R}:∀(q:Nat) (i j:Int) (m:Nat) (l:List UInt8) (len:Nat) (h0:0<=i) (hj:j<l.length) (hq:j-i<q) (hm:q<m) (hl:len=l.length) (hs:l.length<=2147483648) (hj0:-1<=j),
  aS env (aA env L n) L 1 [] Bz50 (fS 0) Bz73 m (.sl 0 g 0 len::Y1 (nI i::nI j::Y16 (Y8 ([])))) [.arr (a7 l) 1 g] k
  =k (.exit 0) (.sl 0 g 0 len::Y1 (nI ((revG q i j l).1)::nI ((revG q i j l).2.1)::Y16 (Y8 ([])))) [.arr (a7 (revG q i j l).2.2) 1 g]:=by
 intro q
 induction q with
 |zero=>
  intro i j m l len h0 hj hq hm hl hs hj0;obtain _|m:=m;omega;have hc:¬i<j:=om
  simp-implicitDefEqProofs (maxSteps:=9^7) (disch:=try exact Dz) only[↓DN,↓kRet,UP,simprocAttr,hc,gR,fK,Tryz.f251]<;>rfl
 |succ q ih=>
  intro i j m l len h0 hj hq hm hl hs hj0;obtain _|m:=m;omega
  by_cases hc:i<j
  ·have hi1:i<(len:Int):=om;have hj1:j<(len:Int):=om;have hi2:i.toNat<l.length:=om;have hj2:j.toNat<l.length:=om;have hj3:j.toNat<(l.set i.toNat (l.getD j.toNat 0)).length:=by rw[Bt];exact hj2
   have hj4:(0:Int)<=j:=om;have ih':=ih (i+1) (j-1) m (swp l i.toNat j.toNat) len om (by rw[BR];omega) om om (by rw[BR];exact hl) (by rw[BR];exact hs) om;unfold swp at ih'
   simp-implicitDefEqProofs (maxSteps:=9^7) (disch:=try exact Dz) only[↓DN,↓kRet,UP,simprocAttr,hc,↓aSf,↓ih',gR,fK,Tryz.f251];simp only[revG,hc,if_true,swp]
  ·simp-implicitDefEqProofs (maxSteps:=9^7) (disch:=try exact Dz) only[↓DN,↓kRet,UP,simprocAttr,hc,gR,fK,Tryz.f251];simp only[revG,hc,if_false]
theorem aSy{L n g:Nat}(hn:1<=n)(l:List UInt8)(hs:l.length<=2147483648)(hL:2^60<=L):aA env L n 251 [.sl 0 g 0 l.length] [.arr (a7 l) 1 g]=some (.tup [],[.arr (a7 (revG (l.length+1) 0 ((l.length:Int)-1) l).2.2) 1 g]):=by
 have lp:∀ {R:Type} {n:Nat} {k:KE R},aS env (aA env L n) L 1 [] Bz50 (fS 0) Bz73 L (.sl 0 g 0 l.length::Y1 (nI 0::nI ((l.length:Int)-1)::Y16 (Y8 ([])))) [.arr (a7 l) 1 g] k
  =k (.exit 0) (.sl 0 g 0 l.length::Y1 (nI ((revG (l.length+1) 0 ((l.length:Int)-1) l).1)::nI ((revG (l.length+1) 0 ((l.length:Int)-1) l).2.1)::Y16 (Y8 ([])))) [.arr (a7 (revG (l.length+1) 0 ((l.length:Int)-1) l).2.2) 1 g]:=
  fun {R n k}=>aOR (l.length+1) 0 _ L l l.length (Cb _) om om om rfl hs om
 have loop_a:=@lp;obtain _|n:=n;omega
 simp-implicitDefEqProofs (maxSteps:=9^7) (disch:=try exact Dz) only[↓DN,↓kAsg,↓kRet,UP,simprocAttr,↓loop_a,DO,pI,Tryz.f251]
theorem aSK{R:Type}{L n id g:Nat}{hq:H}{k:KA R}(hn:1<=n)(l:List UInt8)(hi:hq[id]? =some (.arr (a7 l) 1 g))(hs:l.length<=2147483648)(hL:2^60<=L):aW env (aA env L n) hq 251 [.sl id g 0 l.length] k=k (.tup []) (hq.set id (.arr (a7 (revG (l.length+1) 0 ((l.length:Int)-1) l).2.2) 1 g)):=
 TG hi (by simp[idsL,idsA]) iQ rfl (by simpa [aE,mapA,aH]using aSy hn l hs hL)
section
variable{R:Type}{L n:Nat}
def visF:List Int->List Bool->List Int->List Bool×List Int
 | [],s,f=>(s,f)
 |n::ns,s,f=>if s.getD n.toNat false=true then visF ns s f else visF ns (s.set n.toNat true) (f++[n])
def gX(s:List Bool):Nat:=s.count false
theorem aA7:∀(ns:List Int) (s:List Bool) (f:List Int),(visF ns s f).1.length=s.length
 | [],s,f=>rfl
 |n::ns,s,f=>by
  unfold visF
  split
  ·exact aA7 ns s f
  ·rw[aA7 ns];simp
theorem YX:∀ {s:List Bool} {k:Nat},s.getD k false=false->k<s.length->gX (s.set k true)+1=gX s
 | [],k,h,hk=>by simp at hk
 |b::s,0,h,hk=>by
  simp at h;subst h;simp[gX]
 |b::s,k+1,h,hk=>by
  have ih:=YX (s:=s) (k:=k) (by simpa using h) (by simpa using hk);simp only[gX]at ih|-;simp only[By,List.count_cons];omega
theorem JG:∀(ns:List Int) (s:List Bool) (f:List Int),(∀n∈ns,0<=n/\n<s.length)->(visF ns s f).2.length+gX (visF ns s f).1=f.length+gX s
 | [],s,f,h=>rfl
 |n::ns,s,f,h=>by
  unfold visF
  split
  ·exact JG ns s f fun m hm=>h m (Bc _ hm)
  ·rename_i h1
   have h2:=h n Bg;rw[JG ns _ _ fun m hm=>by simpa using h m (Bc _ hm)];have:=YX (s:=s) (k:=n.toNat) (by simpa using h1) om;simp only[Ai,Ac,Ab];omega
theorem aBi:∀(ns:List Int) (s:List Bool) (f:List Int) (x:Int),x∈(visF ns s f).2->x∈f\/x∈ns
 | [],s,f,x,h=>.inl h
 |n::ns,s,f,x,h=>by
  unfold visF at h
  split at h
  ·rcases aBi ns s f x h with h|h
   ·exact .inl h
   ·exact .inr (Bc _ h)
  ·rcases aBi ns _ _ x h with h|h
   ·rcases Aq.1 h with h|h
    ·exact .inl h
    ·simp at h;subst h;exact .inr Bg
   ·exact .inr (Bc _ h)
theorem WO(s:List Bool):gX s<=s.length:=List.count_le_length
structure PGood(I:Int->Prop)(size:Nat)(s:List Bool)(st:List PStep):Prop where
 len:s.length=size
 node:∀p∈st,∀n∈p.ns,I n
 room:st.length+gX s<=size
 wide:∀p∈st,p.ns.length<=size
theorem aMn{I:Int->Prop}{size:Nat}{s:List Bool}{st:List PStep}(h:PGood I size s st){ns:List Int}(hI:∀n∈ns,I n)(hr:∀n,I n->0<=n/\n<size)(p l:Int):
  PGood I size (visF ns s []).1 (addP st p l (visF ns s []).2)/\(addP st p l (visF ns s []).2).length+gX (visF ns s []).1<=st.length+gX s/\st.length<=(addP st p l (visF ns s []).2).length:=by
 have hc:=JG ns s [] fun n hn=>by
  have:=hr n (hI n hn);rw[h.len];exact this
 have hm:=aBi ns s [];have hl:=aA7 ns s [];have hu:=WO s;rw[h.len]at hu;have hroom:=h.room;simp only[Ab,Ag]at hc;unfold addP
 split
 ·rename_i hf
  rw[hf]at hc;simp only[Ab,Ag]at hc;exact⟨⟨by rw[hl,h.len],h.node,by omega,h.wide⟩,by omega,by omega⟩
 ·rename_i hf
  have hpos:0<(visF ns s []).2.length:=Ed.2 hf;refine⟨⟨by rw[hl,h.len],?_,by simp only[Ai,Ac,Ab];omega,?_⟩,by simp only[Ai,Ac,Ab];omega,by simp⟩
  ·intro q hq n hn
   rcases Aq.1 hq with hq|hq
   ·exact h.node q hq n hn
   ·simp at hq;subst hq
    rcases hm n hn with h1|h1
    ·cases h1
    ·exact hI n h1
  ·intro q hq
   rcases Aq.1 hq with hq|hq
   ·exact h.wide q hq
   ·simp at hq;subst hq;show(visF ns s []).2.length<=size;omega
theorem y5(gl:Int->Bool):∀(ns:List Int) (s:List Bool) (f:List Int) (b:Bool),(visG gl ns s f b).1=(visF ns s f).1/\(visG gl ns s f b).2.1=(visF ns s f).2
 | [],s,f,b=>⟨rfl,rfl⟩
 |n::ns,s,f,b=>by
  unfold visG visF
  split
  ·exact y5 gl ns s f b
  ·exact y5 gl ns _ _ _
theorem MW{I:Int->Prop}{gl:Int->Bool}{size:Nat}{s:List Bool}{st:List PStep}(h:PGood I size s st){ns:List Int}(hI:∀n∈ns,I n)(hr:∀n,I n->0<=n/\n<size)(p l:Int):
  PGood I size (visG gl ns s [] false).1 (addP st p l (visG gl ns s [] false).2.1)/\(addP st p l (visG gl ns s [] false).2.1).length+gX (visG gl ns s [] false).1<=st.length+gX s/\st.length<=(addP st p l (visG gl ns s [] false).2.1).length:=by
 obtain⟨e1,e2⟩:=y5 gl ns s [] false;rw[e1,e2];exact aMn h hI hr p l
theorem RA{I:Int->Prop}{gl:Int->Bool}{size:Nat}{nx:Int->Int->List Int}{ns:List Int}{p:Int}(hr:∀n,I n->0<=n/\n<size)(hn:∀n∈ns,I n):∀(ls:List Int) (q:List Bool×List PStep),(∀n m,I n->m∈ls->∀y∈nx n m,I y)->PGood I size q.1 q.2->
  PGood I size (ltG nx gl ns p ls q).2.1 (ltG nx gl ns p ls q).2.2/\(ltG nx gl ns p ls q).2.2.length+gX (ltG nx gl ns p ls q).2.1<=q.2.length+gX q.1/\q.2.length<=(ltG nx gl ns p ls q).2.2.length
 | [],q,hx,h=>⟨h,Ad _,Ad _⟩
 |l::ls,q,hx,h=>by
  have hI:∀m∈flat nx ns l,I m:=by
   intro m hm;obtain⟨n,h1,h2⟩:=Du.1 hm;exact hx n l (hn n h1) Bg m h2
  obtain⟨g1,g2,g3⟩:=MW (gl:=gl) h hI hr p l;unfold ltG
  split
  ·exact⟨g1,g2,g3⟩
  ·obtain⟨k1,k2,k3⟩:=RA (gl:=gl) (p:=p) hr hn ls (_,_) (fun n m h1 h2=>hx n m h1 (Bc _ h2)) g1;exact⟨k1,Bk k2 g2,Bk g3 k3⟩
def b9:List PStep->List D
 | []=>[]
 |p::l=>.int .i64 p.par::.int .i64 p.lt::.ivs p.ns.length (ints p.ns)::b9 l
theorem vW:∀ {l:List PStep},(b9 l).length=l.length*3
 | []=>rfl
 |p::l=>by simp only[b9,Ac,vW (l:=l)];omega
theorem aCD:∀ {a b:List PStep},b9 a++b9 b=b9 (a++b)
 | [],b=>rfl
 |p::a,b=>by simp only[b9,As,aCD (a:=a)]
theorem aLG{l:List PStep}{p t:Int}{ns:List Int}{z:Nat}(h:z=ns.length):b9 l++[.int .i64 p,.int .i64 t,.ivs z (ints ns)]=b9 (l++[⟨p,t,ns⟩]):=by
 subst h;rw[<-aCD];rfl
theorem B1:∀ {l:List PStep} {k:Nat},(b9 l).drop (k*3)=b9 (l.drop k)
 |l,0=>by simp
 | [],k+1=>by simp[b9]
 |p::l,k+1=>by
  rw[Bw,Nat.one_mul];simp only[b9,Dg];exact B1
theorem O3{l:List PStep}{k:Nat}(h:l.length<=k):(b9 l).take (k*3)=b9 l:=Ca (by rw[vW];omega)
theorem ZE{l:List PStep}{k:Nat}(h:k<l.length):(((b9 l).drop (k*3+2)).map A.d).head? =some (.d (.ivs (l.getD k default).ns.length (ints (l.getD k default).ns))):=by
 rw[<-Br,B1,bP h (d:=default)];rfl
def dF(l:List Bool):List D:=l.map .bool
theorem VF{l:List Bool}:(dF l).length=l.length:=by simp[dF]
theorem aCI{l:List Bool}{k:Nat}(h:k<l.length):(((dF l).drop k).map A.d).head? =some (.d (.bool (l.getD k false))):=by
 rw[List.head?_map,Dc,dF,Bb,Aa,Ae h];rfl
theorem aFP{l:List Bool}{k:Nat}{v:Bool}(h:k<l.length):bD (dF l) k [.bool v]=dF (l.set k v):=GF _ l k v h
theorem U3{a b c:O}{h:H}{g e k:Nat}{l:List Bool}{v:Bool}(hk:k<l.length):iW env.P (a::b::c::.arr (dF l) e g::h) 4 (.ptr 3 g k) (.d (.bool v))=some (a::b::c::.arr (dF (l.set k v)) e g::h):=by
 rw[yH (id:=3) rfl aNJ aN0 rfl (by rw[VF];exact hk),aFP hk];rfl
theorem UU{a b c d:O}{h:H}{g e k:Nat}{l:List Bool}{v:Bool}(hk:k<l.length):iW env.P (a::b::c::d::.arr (dF l) e g::h) 4 (.ptr 4 g k) (.d (.bool v))=some (a::b::c::d::.arr (dF (l.set k v)) e g::h):=by
 rw[yH (id:=4) rfl aNJ aN0 rfl (by rw[VF];exact hk),aFP hk];rfl
theorem rng5:List.range 5=[0,1,2,3,4]:=rfl
theorem rng6:List.range 6=[0,1,2,3,4,5]:=rfl
theorem aG2:c7 env.P 118=some false:=kr
theorem PE:type_of% (AI rng5 (AI rng6 (AI @vW (AI @O3 (AI @ZE @aCI))))):=
 ⟨rng5,rng6,@vW,@O3,@ZE,@aCI⟩
theorem aM2(hn:3<=n)(hL:2^60<=L){I:Int->Prop}{gl:Int->Bool}{gf:FuncId}{caps:List D}{size:Nat}{p l:Int}{ns:List Int}{sc:List D}{se sg sn:Nat}(kc_g:∀ {R:Type} {n:Nat} {hq:H} {k:KA R} (x:Int),2<=n->I x->aW env (aA env L n) hq gf (nI x::caps.map A.d) k=k (.d (.bool (gl x))) hq)(hI:∀x∈ns,I x)(hr:∀x,I x->0<=x/\x<size)(hsz:size<=4294967296)(hnl:ns.length<=4294967290){k:KE R}:∀(j i m:Nat) (seen:List Bool) (f:List Int) (b:Bool) (len:Nat) (hi:i+j=ns.length) (hm:j<m) (hs:seen.length=size) (hf:f.length<=i) (hlen:len=f.length),
  aS env (aA env L n) L (5) (W8 (W2 [2])) Bz10 (mX 0) Bz29 m (nI p::nI l::Y1 (.ptr 0 0 0::.ptr 1 0 0::.ptr 2 0 0::Y2 (Y1 (.d (.bool false)::.sl 5 0 0 len::.d (.bool b)::Y2 (.d (.ivs ns.length (ints ns))::nI (ns.length)::nI i::Y32 (Y1 ([]))))))) [.box [.sl 3 0 0 size],.box [.d (.fn gf caps)],.box [.sl 4 sg 0 sn],.arr (dF seen) 1 0,.arr sc se sg,.arr (ints f) 1 0] k
  =k (.exit 0) (nI p::nI l::Y1 (.ptr 0 0 0::.ptr 1 0 0::.ptr 2 0 0::Y2 (Y1 (.d (.bool false)::.sl 5 0 0 (visG gl (ns.drop i) seen f b).2.1.length::.d (.bool (((visG gl (ns.drop i) seen f b).2.2)))::Y2 (.d (.ivs ns.length (ints ns))::nI (ns.length)::nI (ns.length)::Y32 (Y1 ([]))))))) [.box [.sl 3 0 0 size],.box [.d (.fn gf caps)],.box [.sl 4 sg 0 sn],.arr (dF (visG gl (ns.drop i) seen f b).1) 1 0,.arr sc se sg,.arr (ints (visG gl (ns.drop i) seen f b).2.1) 1 0]:=by
 intro j
 induction j with
 |zero=>
  intro i m seen f b len hi hm hs hf hlen;obtain _|m:=m;omega;obtain rfl:i=ns.length:=om;subst hlen
  simp-implicitDefEqProofs (maxSteps:=9^7) (disch:=try exact Dz) only[↓DN,↓kRet,UP,simprocAttr,PE,Ak,cJ,cR,Tryz.f210];simp only[Bl,visG]
 |succ j ih=>
  intro i m seen f b len hi hm hs hf hlen;obtain _|m:=m;omega;subst hlen;have hc:(i:Int)<ns.length:=om;have hk:i<ns.length:=om;have hmem:ns.getD i 0∈ns:=by rw[Aa,Ae hk];exact Ba hk
  have hIx:=hI _ hmem;obtain⟨b1,b2⟩:=hr _ hIx;have b3:(ns.getD i 0).toNat<seen.length:=om;have e4:((i+1:Nat):Int)=(i:Int)+1:=om;rw[bP hk (d:=0)]
  cases hb:seen.getD (ns.getD i 0).toNat false with
  |true=>
   have ih':=ih (i+1) m seen f b f.length om om hs om rfl;rw[e4]at ih';clear ih hmem
   simp-implicitDefEqProofs (maxSteps:=9^7) (disch:=try exact Dz) only[↓DN,↓kRet,UP,simprocAttr,PE,hc,b1,b2,hb,↓ih',cJ,cR,Tryz.f210];simp only[visG,hb,if_true]
  |false=>
   cases b with
   |true=>
    have ih':=ih (i+1) m (seen.set (ns.getD i 0).toNat true) (f++[ns.getD i 0]) true (f.length+1) om om (by simp[hs]) (by simp;omega) sm;rw[e4]at ih';clear ih hmem
    simp-implicitDefEqProofs (maxSteps:=9^7) (disch:=try exact Dz) only[↓DN,↓kRet,UP,simprocAttr,PE,hc,b1,b2,hb,↓U3,↓ih',cJ,cR,Tryz.f210];simp only[visG,hb,Ap,if_false,Bool.true_or]
   |false=>
    cases hg:gl (ns.getD i 0)with
    |true=>
     have ih':=ih (i+1) m (seen.set (ns.getD i 0).toNat true) (f++[ns.getD i 0]) true (f.length+1) om om (by simp[hs]) (by simp;omega) sm;rw[e4]at ih';clear ih hmem
     simp-implicitDefEqProofs (maxSteps:=9^7) (disch:=try exact Dz) only[↓DN,↓kRet,UP,simprocAttr,PE,aG2,hc,b1,b2,hb,hg,↓U3,↓kc_g,↓ih',cJ,cR,Tryz.f210];simp only[visG,hb,hg,Ap,if_false,Bool.or_true]
    |false=>
     have ih':=ih (i+1) m (seen.set (ns.getD i 0).toNat true) (f++[ns.getD i 0]) false (f.length+1) om om (by simp[hs]) (by simp;omega) sm;rw[e4]at ih';clear ih hmem
     simp-implicitDefEqProofs (maxSteps:=9^7) (disch:=try exact Dz) only[↓DN,↓kRet,UP,simprocAttr,PE,aG2,hc,b1,b2,hb,hg,↓U3,↓kc_g,↓ih',cJ,cR,Tryz.f210];simp only[visG,hb,hg,Ap,if_false,Bool.or_false]
theorem aOn(hn:3<=n)(hL:2^60<=L){I:Int->Prop}{gl:Int->Bool}{gf:FuncId}{caps:List D}{size:Nat}{p l:Int}{ns:List Int}{sc:List D}{se sg sn:Nat}(kc_g:∀ {R:Type} {n:Nat} {hq:H} {k:KA R} (x:Int),2<=n->I x->aW env (aA env L n) hq gf (nI x::caps.map A.d) k=k (.d (.bool (gl x))) hq)(hI:∀x∈ns,I x)(hr:∀x,I x->0<=x/\x<size)(hsz:size<=4294967296)(hnl:ns.length<=4294967290){k:KE R}:∀(j i m:Nat) (seen:List Bool) (f:List Int) (b:Bool) (len:Nat) (hi:i+j=ns.length) (hm:j<m) (hs:seen.length=size) (hf:f.length<=i) (hlen:len=f.length),
  aS env (aA env L n) L (6) (W8 (W2 [2])) Bz10 (mX 0) Bz29 m (nI p::nI l::Y1 (.ptr 0 0 0::.ptr 1 0 0::.ptr 2 0 0::Y2 (Y1 (.d (.bool false)::.sl 6 0 0 len::.d (.bool b)::Y2 (.sl 3 0 0 ns.length::nI (ns.length)::nI i::Y32 (Y1 ([]))))))) [.box [.sl 4 0 0 size],.box [.d (.fn gf caps)],.box [.sl 5 sg 0 sn],.arr (ints ns) 1 0,.arr (dF seen) 1 0,.arr sc se sg,.arr (ints f) 1 0] k
  =k (.exit 0) (nI p::nI l::Y1 (.ptr 0 0 0::.ptr 1 0 0::.ptr 2 0 0::Y2 (Y1 (.d (.bool false)::.sl 6 0 0 (visG gl (ns.drop i) seen f b).2.1.length::.d (.bool (((visG gl (ns.drop i) seen f b).2.2)))::Y2 (.sl 3 0 0 ns.length::nI (ns.length)::nI (ns.length)::Y32 (Y1 ([]))))))) [.box [.sl 4 0 0 size],.box [.d (.fn gf caps)],.box [.sl 5 sg 0 sn],.arr (ints ns) 1 0,.arr (dF (visG gl (ns.drop i) seen f b).1) 1 0,.arr sc se sg,.arr (ints (visG gl (ns.drop i) seen f b).2.1) 1 0]:=by
 intro j
 induction j with
 |zero=>
  intro i m seen f b len hi hm hs hf hlen;obtain _|m:=m;omega;obtain rfl:i=ns.length:=om;subst hlen
  simp-implicitDefEqProofs (maxSteps:=9^7) (disch:=try exact Dz) only[↓DN,↓kRet,UP,simprocAttr,PE,Ak,cJ,cR,Tryz.f210];simp only[Bl,visG]
 |succ j ih=>
  intro i m seen f b len hi hm hs hf hlen;obtain _|m:=m;omega;subst hlen;have hc:(i:Int)<ns.length:=om;have hk:i<ns.length:=om;have hmem:ns.getD i 0∈ns:=by rw[Aa,Ae hk];exact Ba hk
  have hIx:=hI _ hmem;obtain⟨b1,b2⟩:=hr _ hIx;have b3:(ns.getD i 0).toNat<seen.length:=om;have e4:((i+1:Nat):Int)=(i:Int)+1:=om;rw[bP hk (d:=0)]
  cases hb:seen.getD (ns.getD i 0).toNat false with
  |true=>
   have ih':=ih (i+1) m seen f b f.length om om hs om rfl;rw[e4]at ih';clear ih hmem
   simp-implicitDefEqProofs (maxSteps:=9^7) (disch:=try exact Dz) only[↓DN,↓kRet,UP,simprocAttr,PE,hc,b1,b2,hb,↓ih',cJ,cR,Tryz.f210];simp only[visG,hb,if_true]
  |false=>
   cases b with
   |true=>
    have ih':=ih (i+1) m (seen.set (ns.getD i 0).toNat true) (f++[ns.getD i 0]) true (f.length+1) om om (by simp[hs]) (by simp;omega) sm;rw[e4]at ih';clear ih hmem
    simp-implicitDefEqProofs (maxSteps:=9^7) (disch:=try exact Dz) only[↓DN,↓kRet,UP,simprocAttr,PE,hc,b1,b2,hb,↓UU,↓ih',cJ,cR,Tryz.f210];simp only[visG,hb,Ap,if_false,Bool.true_or]
   |false=>
    cases hg:gl (ns.getD i 0)with
    |true=>
     have ih':=ih (i+1) m (seen.set (ns.getD i 0).toNat true) (f++[ns.getD i 0]) true (f.length+1) om om (by simp[hs]) (by simp;omega) sm;rw[e4]at ih';clear ih hmem
     simp-implicitDefEqProofs (maxSteps:=9^7) (disch:=try exact Dz) only[↓DN,↓kRet,UP,simprocAttr,PE,aG2,hc,b1,b2,hb,hg,↓UU,↓kc_g,↓ih',cJ,cR,Tryz.f210];simp only[visG,hb,hg,Ap,if_false,Bool.or_true]
    |false=>
     have ih':=ih (i+1) m (seen.set (ns.getD i 0).toNat true) (f++[ns.getD i 0]) false (f.length+1) om om (by simp[hs]) (by simp;omega) sm;rw[e4]at ih';clear ih hmem
     simp-implicitDefEqProofs (maxSteps:=9^7) (disch:=try exact Dz) only[↓DN,↓kRet,UP,simprocAttr,PE,aG2,hc,b1,b2,hb,hg,↓UU,↓kc_g,↓ih',cJ,cR,Tryz.f210];simp only[visG,hb,hg,Ap,if_false,Bool.or_false]
theorem aRj(hn:4<=n)(hL:2^60<=L){I:Int->Prop}{gl:Int->Bool}{gf:FuncId}{caps:List D}{size:Nat}{p l:Int}{ns:List Int}(kc_g:∀ {R:Type} {n:Nat} {hq:H} {k:KA R} (x:Int),2<=n->I x->aW env (aA env L n) hq gf (nI x::caps.map A.d) k=k (.d (.bool (gl x))) hq)(hI:∀x∈ns,I x)(hr:∀x,I x->0<=x/\x<size)(hsz:size<=4294967290)(hnl:ns.length<=4294967290)(seen:List Bool)(hs:seen.length=size)(r:List Bool×List Int×Bool)(he:visG gl ns seen [] false=r)(hpos:(0:Int)<r.2.1.length):
  aA env L n 210 [nI p,nI l,.d (.ivs ns.length (ints ns)),.ptr 0 0 0,.ptr 1 0 0,.ptr 2 0 0] [.box [.sl 3 0 0 size],.box [.d (.fn gf caps)],.box [.sl 4 0 0 0],.arr (dF seen) 1 0,.arr [] 0 0]
  =some (.d (.bool r.2.2),[.box [.sl 3 0 0 size],.box [.d (.fn gf caps)],.box [.sl 4 1 0 1],.arr (dF r.1) 1 0,.arr (b9 [⟨p,l,r.2.1⟩]) 3 1]):=by
 have loop_c:=fun {R:Type} {n:Nat} (hn:3<=n) {k:KE R}=> @aM2 R L n hn hL I gl gf caps size p l ns [] 0 0 0 (fun {R n hq k}=>kc_g) hI hr om hnl k ns.length 0 L seen [] false 0 om om hs sm rfl;simp only[Ax,he,gY,Aw]at loop_c
 have hb:r.2.1.length<=size:=by
  have h1:=JG ns seen [] fun x hx=>by rw[hs];exact hr x (hI x hx)
  have h2:=WO seen;rw[<-(y5 gl ns seen [] false).1,<-(y5 gl ns seen [] false).2,he]at h1;simp only[Ab,Ag]at h1;omega
 have et:(ints r.2.1).take r.2.1.length=ints r.2.1:=eW (Ad _);obtain _|n:=n;omega
 simp-implicitDefEqProofs (maxSteps:=9^7) (disch:=try exact Dz) only[↓DN,↓kAsg,↓kRet,UP,simprocAttr,PE,↓loop_c,hpos,et,uC,oD,Tryz.f210]<;>rfl
theorem aR3(hn:4<=n)(hL:2^60<=L){I:Int->Prop}{gl:Int->Bool}{gf:FuncId}{caps:List D}{size:Nat}{p l:Int}{ns:List Int}(kc_g:∀ {R:Type} {n:Nat} {hq:H} {k:KA R} (x:Int),2<=n->I x->aW env (aA env L n) hq gf (nI x::caps.map A.d) k=k (.d (.bool (gl x))) hq)(hI:∀x∈ns,I x)(hr:∀x,I x->0<=x/\x<size)(hsz:size<=4294967290)(hnl:ns.length<=4294967290)(seen:List Bool)(hs:seen.length=size)(st:List PStep)(hst:st.length<=4294967290)(r:List Bool×List Int×Bool)(he:visG gl ns seen [] false=r):
  aA env L n 210 [nI p,nI l,.sl 3 0 0 ns.length,.ptr 0 0 0,.ptr 1 0 0,.ptr 2 0 0] [.box [.sl 4 0 0 size],.box [.d (.fn gf caps)],.box [.sl 5 0 0 st.length],.arr (ints ns) 1 0,.arr (dF seen) 1 0,.arr (b9 st) 3 0]
  =some (.d (.bool r.2.2),[.box [.sl 4 0 0 size],.box [.d (.fn gf caps)],.box [.sl 5 (if r.2.1=[]then 0 else 1) 0 (addP st p l r.2.1).length],.arr (ints ns) 1 0,.arr (dF r.1) 1 0,.arr (b9 (addP st p l r.2.1)) 3 (if r.2.1=[]then 0 else 1)]):=by
 have loop_c:=fun {R:Type} {n:Nat} (hn:3<=n) {k:KE R}=> @aOn R L n hn hL I gl gf caps size p l ns (b9 st) 3 0 st.length (fun {R n hq k}=>kc_g) hI hr om hnl k ns.length 0 L seen [] false 0 om om hs sm rfl;simp only[Ax,he,gY,Aw]at loop_c
 have hb:r.2.1.length<=size:=by
  have h1:=JG ns seen [] fun x hx=>by rw[hs];exact hr x (hI x hx)
  have h2:=WO seen;rw[<-(y5 gl ns seen [] false).1,<-(y5 gl ns seen [] false).2,he]at h1;simp only[Ab,Ag]at h1;omega
 have et:(ints r.2.1).take r.2.1.length=ints r.2.1:=eW (Ad _);have es:(b9 st).take (st.length*3)=b9 st:=O3 (Ad _);unfold addP
 by_cases hf:r.2.1=[]
 ·rw[if_pos hf,if_pos hf];have hz:r.2.1.length=0:=by rw[hf];rfl
  rw[hz]at loop_c;obtain _|n:=n;omega
  simp-implicitDefEqProofs (maxSteps:=9^7) (disch:=try exact Dz) only[↓DN,↓kAsg,↓kRet,UP,simprocAttr,PE,↓loop_c,Aw,Ak,uC,oD,Tryz.f210]
 ·rw[if_neg hf,if_neg hf];have hpos:(0:Int)<r.2.1.length:=by have:=Ed.2 hf;omega
  obtain _|n:=n;omega
  simp-implicitDefEqProofs (maxSteps:=9^7) (disch:=try exact Dz) only[↓DN,↓kAsg,↓kRet,UP,simprocAttr,PE,↓loop_c,hpos,et,es,aLG,uC,oD,Tryz.f210]
end
end Ev
end Go.Proofs.YtahbdkmimmnadaaGreatDoor
