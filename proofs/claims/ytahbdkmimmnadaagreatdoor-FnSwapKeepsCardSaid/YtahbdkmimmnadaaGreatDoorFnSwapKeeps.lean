/-
  Edges that are drawn, with a system.
-/
import Derived.Test.YtahbdkmimmnadaaGreatDoorDrawY
import Derived.Test.YtahbdkmimmnadaaGreatDoorShRn
import Derived.Test.YtahbdkmimmnadaaGreatDoorChoS
import Derived.Test.YtahbdkmimmnadaaGreatDoorDrawT
import Derived.Test.YtahbdkmimmnadaaGreatDoorDrawPV
set_option linter.unusedSimpArgs false
set_option linter.unusedVariables false
set_option maxRecDepth 8000
set_option maxHeartbeats 4000000
namespace Go.Proofs.YtahbdkmimmnadaaGreatDoor
namespace Ev
theorem YC(c0:List UInt8)(hc0:c0.length<=4294967296):∃(al st:Int) (es:List Edge) (x y:Int),es.length<=80000/\∀(R:Type) (L n:Nat) (hq:H) (k:KA R),16<=n->2^60<=L->aW env (aA env L n) hq 28 [.d (.ivs c0.length (a7 c0))] k=k (.tup [.agg [nI al,nI st,.d (.ivs es.length (aJ es))],nI x,nI y]) hq:=by
 have hc:=aKQ c0;generalize hcs:src c0=c at hc;obtain⟨al,st,es,q,g1,g2,g3,kd1⟩:=aPp hc 0 om om;obtain⟨x,y,q2,x1,x2,y1,y2,q5,q6,kd2⟩:=aNI hc q om om;refine⟨al,st,es,x,y,g1,fun R L n hq k hn hL=>cS rfl ?_ rfl (.inr rfl)⟩;have kd_a:=fun {R:Type} {hq:H} {k:KA R} {i:Nat} {L n:Nat}=> @aHF L n _ _ _ _ _ _ _ rfl rfl kd1 R hq k i;have kd_b:=fun {R:Type} {hq:H} {k:KA R} {i:Nat} {L n:Nat}=> @aHF L n _ _ _ _ _ _ _ rfl rfl kd2 R hq k i;clear kd1 kd2;obtain _|n:=n;omega
 simp-implicitDefEqProofs (maxSteps:=9^7) (disch:=try exact Dz) only[↓DN,↓kAsg,↓kRet,UP,simprocAttr,↓aJq,hcs,↓kd_a,↓kd_b,R7,DP,Tryz.f28]
theorem aQT{x y:Int}(hx:aT x=true)(hy:aT y=true){w:List Int}(hw:mI (txt w)=true)(hl:∀l∈w,aT l=true):BA (txt w) x y=txt (swW x y w):=by
 rw[aHB hw hx hy];unfold txt swW;rw[List.map_map,List.map_map];refine List.map_congr_left fun l h=> ?_;have hb:=cU.1 (hl l h);show aCc x y (gC l)=gC (cH l x y);unfold aCc;rw[LP hb.1 hb.2]
theorem aM8{x y:Int}(hx:aT x=true)(hy:aT y=true){P:List Sys}{b:Aut}(hv:bQ P=true)(hb:AOK b)(hf:(brkG P b).2=true):∃u:List UInt8,BA (txt (brkG P b).1) x y=u/\eZ (parA (P.map (swSy x y))) u=true/\mI u=true/\(∀s∈P.map (swSy x y),hasT s (u.filter (inB s.al))=true)/\InW (swA b x y) u/\accW (swA b x y) (u.filter (inB (swA b x y).al))=false/\u.length<=60000:=by
 have hl:=aQY hv hb;have h3:=(aKP hx hy hv hb).2.2 hf
 rcases VU hv hb with⟨_,⟨hh,_⟩⟩|⟨h1,_⟩
 ·obtain⟨g1,g2,g3,g4,g5⟩:=aEC hv hb hl hh;obtain⟨k1,k2,k3,k4,k5⟩:=aEC (aBq hx hy hv) (aHA hb hx hy) (w:=swW x y (brkG P b).1) (by unfold swW;rw[Ar];exact hl) h3
  have hlet:∀l∈(brkG P b).1,aT l=true:=by
   obtain⟨u,⟨t,_,hp⟩,_⟩:=hh;exact fun l h=>aJd (rJ _ t u hp l h)
  refine⟨_,aQT hx hy g2 hlet,k1,k2,k3,k4,k5,?_⟩;unfold txt swW;rw[Ar,Ar];omega
 ·rw[h1]at hf;cases hf
theorem aNh{x y:Int}{P:List Sys}(h:cW P):cW (P.map (swSy x y)):=by
 refine⟨by rw[Ar];exact h.1,fun s hs=> ?_⟩;obtain⟨t,ht,rfl⟩:=Bf.1 hs;have:=h.2 t ht;show(kH (t.es.map (gP x y))).length<=_;rw[aFQ,Ar];exact this
theorem aMy{x y:Int}(h:(aT x&&aT y)=false):bO 0 x y= -1:=by
 unfold bO;rw[if_neg (by rw[Bool.and_assoc,h];simp)]
theorem aL0{x y:Int}(hx:aT x=true)(hy:aT y=true):0<=bO 0 x y:=by
 have:=qO (a:=0) dc hx hy;unfold bH at this;simp only[decide_eq_true_eq]at this;omega
theorem aP2{R:Type}{L n:Nat}(hn:8<=n)(hL:2^60<=L){P:List Sys}{b:Aut}{x y:Int}{w:List UInt8}{f:Bool}(hx:aT x=true)(hy:aT y=true)(hP:cW P)(h3:P.length<=3)(hv:∀s∈P,bK s=true){k:KE R}:∀(j i m:Nat) (o:List Sys) (len e:Nat) (hi:i+j=P.length) (hm:j<m) (hlen:len=o.length) (ho:o.length<=i) (he:e=0\/e=3),
  aS env (aA env L n) L 0 [] Bz26 (BH 0) (U4 (Z2 (Z1 (U1 (Z4 (U2 (Z2 (U32 (U32 (U32 (U32 (U4 (U1 ([])))))))))))))) m (Y4 (.d (.bool false)::.d (.ivs P.length (sysD P))::.ptr 0 0 0::Y1 (nI x::nI y::.d (.str w)::.d (.bool f)::Y2 (.sl 1 0 0 len::nI i::Y32 (Y32 (Y32 (Y32 (Y4 (Y1 ([])))))))))) [.box [nI b.al,.d (.ivs b.nx.length (aP b.nx)),.d (.ivs b.ac.length (aK b.ac))],.arr (sysD o) e 0] k
  =k (.exit 0) (Y4 (.d (.bool false)::.d (.ivs P.length (sysD P))::.ptr 0 0 0::Y1 (nI x::nI y::.d (.str w)::.d (.bool f)::Y2 (.sl 1 0 0 (o.length+j)::nI (P.length)::Y32 (Y32 (Y32 (Y32 (Y4 (Y1 ([])))))))))) [.box [nI b.al,.d (.ivs b.nx.length (aP b.nx)),.d (.ivs b.ac.length (aK b.ac))],.arr (sysD (o++(P.drop i).map (swSy x y))) (if j=0 then e else 3) 0]:=by
 have hP1:=hP.1;intro j
 induction j with
 |zero=>
  intro i m o len e hi hm hlen ho he;obtain _|m:=m;omega;obtain rfl:i=P.length:=om;subst hlen;rw[Bl,Al,Ah,if_pos rfl,Bm]
  simp-implicitDefEqProofs (maxSteps:=9^7) (disch:=try exact Dz) only[↓DN,↓kRet,UP,simprocAttr,Ak,sJ,qU,Tryz.f6]
 |succ j ih=>
  intro i m o len e hi hm hlen ho he;obtain _|m:=m;omega;subst hlen;have hk:i<P.length:=om;have hc:(i:Int)<P.length:=om;have hi0:(0:Int)<=i:=om;have g:=tG hk;have hes:=XT hP hk;have hso:=hv _ (HE hk);have ih':=ih (i+1) m (o++[swSy x y (P.getD i default)]) (o.length+1) 3 om om sm (by simp;omega) (.inr rfl);rw[cs1 i]at ih';have e0:(if j=0 then 3 else 3)=3:=sm;rw[Ai,Ci,Ao,e0,Dd,Ck 1 j]at ih';rw[bP hk (d:=default),Af,if_neg om]
  have kc_s:∀ {R:Type} {n:Nat} {hq:H} {k:KA R} (hn:7<=n),aW env (aA env L n) hq 33 [.agg [.d (.int .i64 (P.getD i default).al),.d (.int .i64 (P.getD i default).st),.d (.ivs (P.getD i default).es.length (aJ (P.getD i default).es))],nI x,nI y] k
   =k (.tup [.agg [.d (.int .i64 (swSy x y (P.getD i default)).al),.d (.int .i64 (swSy x y (P.getD i default)).st),.d (.ivs (swSy x y (P.getD i default)).es.length (aJ (swSy x y (P.getD i default)).es))],.d (.bool true)]) hq:=
   fun hn=>X0 hn (P.getD i default).al (P.getD i default).st x y (P.getD i default).es hes hL hso hx hy
  have hol:o.length+1<=4294967296:=om;have hk3:3<=P.length*3-i*3:=om;have hsl:(sysD o).length=o.length*3:=pP;simp only[As,Am]at ih';clear ih hso hP hv;generalize(P.drop (i+1)).map (swSy x y)=w2 at *;generalize swSy x y (P.getD i default)=w4 at *;generalize P.getD i default=s at *;obtain⟨a4,s4,e4⟩:=w4;simp only at kc_s
  rcases he with rfl|rfl
  ·simp-implicitDefEqProofs (maxSteps:=9^7) (disch:=try exact Dz) only[↓DN,↓kRet,UP,simprocAttr,NE,Ar,Bj,hk3,hc,hi0,g,↓kc_s,hsl,hol,H2,↓ih',sJ,qU,Tryz.f6]
  ·simp-implicitDefEqProofs (maxSteps:=9^7) (disch:=try exact Dz) only[↓DN,↓kRet,UP,simprocAttr,NE,Ar,Bj,hk3,hc,hi0,g,↓kc_s,hsl,hol,H2,↓ih',sJ,qU,Tryz.f6]
theorem aD7{L n:Nat}(hn:40<=n)(c d:List UInt8)(hL:2^60<=L):aA env L n 6 [.d (.ivs c.length (a7 c)),.d (.ivs d.length (a7 d))] []=some (.d (.bool true),[]):=by
 by_cases hsz:(1048576:Int)<c.length
 ·obtain _|n:=n;omega
  simp-implicitDefEqProofs (maxSteps:=9^7) (disch:=try exact Dz) only[↓DN,↓kAsg,↓kRet,UP,simprocAttr,hsz,jD,iN,Tryz.f6]
 by_cases hsz2:(1048576:Int)<d.length
 ·obtain _|n:=n;omega
  simp-implicitDefEqProofs (maxSteps:=9^7) (disch:=try exact Dz) only[↓DN,↓kAsg,↓kRet,UP,simprocAttr,hsz,hsz2,jD,iN,Tryz.f6]
 obtain⟨P,b,hl,hs,hb,kd1⟩:=OT c om;obtain⟨al,st,es,x,y,hes,kd2⟩:=YC d om;have hes2:es.length<=4294967296:=om;have hP:cW P:=⟨by omega,fun s h=>by have:=hs s h;omega⟩
 have hP1:=hP.1;have sb:=hb.short om;have hac:b.ac.length<=4294967296:=by have:=hb.a;omega
 have kc_i:=@SR L P b hP sb hac hL;have kc_w:=@SB L P b hP sb hac hL;unfold autD at kd1
 cases hv:bQ P with
 |false=>
  generalize vioG P b=r at *;obtain _|n:=n;omega
  simp-implicitDefEqProofs (maxSteps:=9^7) (disch:=try exact Dz) only[↓DN,↓kAsg,↓kRet,UP,simprocAttr,↓eT,hsz,hsz2,↓kd1,↓kd2,↓kc_i,↓kc_w,hv,jD,iN,Tryz.f6]
 |true=>
  obtain⟨h3,h1,hvs⟩:=dH hv;obtain⟨r0,r1⟩:=P0 hv;have r2:¬parA P<0:=om
  cases ha:d9 b.al b.nx b.ac with
  |false=>
   generalize vioG P b=r at *;clear hvs;obtain _|n:=n;omega
   simp-implicitDefEqProofs (maxSteps:=9^7) (disch:=try exact Dz) only[↓DN,↓kAsg,↓kRet,UP,simprocAttr,↓eT,↓bU,hsz,hsz2,↓kd1,↓kd2,↓kc_i,↓kc_w,hv,ha,r2,jD,iN,Tryz.f6]
  |true=>
   cases hxy:aT x&&aT y with
   |false=>
    have hal:=aMy hxy;generalize vioG P b=r at *;clear hvs;obtain _|n:=n;omega
    simp-implicitDefEqProofs (maxSteps:=9^7) (disch:=try exact Dz) only[↓DN,↓kAsg,↓kRet,UP,simprocAttr,↓eT,↓bU,↓kB,hsz,hsz2,↓kd1,↓kd2,↓kc_i,↓kc_w,hv,ha,r2,hal,jD,iN,Tryz.f6]
   |true=>
    rw[Aj]at hxy;obtain⟨hx,hy⟩:=hxy;have hal:=aL0 hx hy;have hal2:¬bO 0 x y<0:=om;have hb2:AOK b:=ha;have hb3:=aHA hb2 hx hy;have hv2:=aBq hx hy hv;have hP2:=aNh (x:=x) (y:=y) hP;obtain⟨sb3,_,_,b4,b5⟩:=eX hb3;have hac3:(swA b x y).ac.length<=4294967296:=om;have hbrk:=aKP hx hy hv hb2;have htr:=aM8 hx hy hv hb2;have e1:vioG P b=brkG P b:=by unfold vioG;rw[hv,ha];rfl
    have e2:vioG (P.map (swSy x y)) (swA b x y)=brkG (P.map (swSy x y)) (swA b x y):=by
     unfold vioG;rw[hv2,show d9 (swA b x y).al (swA b x y).nx (swA b x y).ac=true from hb3];rfl
    have kl_b:=@R8 L (P.map (swSy x y)) (swA b x y) hP2 sb3 hac3 hL;have kv_l:=fun {R:Type} {n:Nat} {hq:H} {args:List A} {k:KA R}=>fI (E:=env) (call:=aA env L n) (h:=hq) (k:=k) (args:=args) nC;have kl_t:=fun {R:Type} {n:Nat} {k:A->Option R} (hn:13<=n) (u:List UInt8)=> @YB R L n k hn (P.map (swSy x y)) u hP2 hv2;have kv_t:=fun {R:Type} {n:Nat} {hq:H} {args:List A} {k:KA R}=>fI (E:=env) (call:=aA env L n) (h:=hq) (k:=k) (args:=args) qB;have kc_b:=fun {R:Type} {n:Nat} {hq:H} {k:KA R} (hn:8<=n) (u:List UInt8)=> @SG R L n hq k hn (swA b x y) u hb3
    have kc_q:∀ {R:Type} {n:Nat} {hq:H} {k:KA R} (hn:6<=n),aW env (aA env L n) hq 34 [.agg [nI b.al,.d (.ivs b.nx.length (aP b.nx)),.d (.ivs b.ac.length (aK b.ac))],nI x,nI y] k=k (.tup [.agg [.d (.int .i64 (swA b x y).al),.d (.ivs (swA b x y).nx.length (aP (swA b x y).nx)),.d (.ivs (swA b x y).ac.length (aK (swA b x y).ac))],.d (.bool true)]) hq:=by
     intro R n hq k hn;have h:=@VC R L n hq k hn b.al x y b.nx b.ac sb hac hL;have ho:kY b.al b.nx b.ac x y=true:=by unfold kY;rw[ha,hx,hy];rfl
     rw[ho]at h;exact h
    have loop_a:=fun {R:Type} {n:Nat} {w:List UInt8} {f:Bool} {k:KE R} (hn:8<=n)=> @aP2 R L n hn hL P b x y w f hx hy hP h3 hvs k P.length 0 L [] 0 3 om om rfl sm (.inr rfl);rw[if_neg (by omega:¬P.length=0)]at loop_a;simp only[Aw,PX,Am,Ax,Ab,Ag]at loop_a;have hml:(P.map (swSy x y)).length=P.length:=Ar _;have htk:(sysD (P.map (swSy x y))).take (P.length*3)=sysD (P.map (swSy x y)):=BF om;have hQd:(sysD (P.map (swSy x y))).length=P.length*3:=by rw[pP,hml]
    have hlen:(txt (brkG (P.map (swSy x y)) (swA b x y)).1).length=(txt (brkG P b).1).length:=by
     unfold txt;rw[Ar,Ar];exact hbrk.2.1
    have hf:=hbrk.1;rw[hml]at kl_b kl_t;rw[e1]at kc_i kc_w;rw[e2]at kl_b;clear hbrk e1 e2 hvs hP2;generalize brkG (P.map (swSy x y)) (swA b x y)=r3 at *;generalize brkG P b=r at *;generalize P.map (swSy x y)=Q at *;generalize swA b x y=b3 at *
    cases hf2:r.2 with
    |false=>
     rw[hf2]at hf kc_i kc_w;obtain _|n:=n;omega
     simp-implicitDefEqProofs (maxSteps:=9^7) (disch:=try exact Dz) only[↓DN,↓kAsg,↓kRet,UP,simprocAttr,↓eT,↓bU,↓kB,hsz,hsz2,↓kd1,↓kd2,↓kc_i,↓kc_w,hv,ha,r2,hal2,↓loop_a,↓kc_q,htk,hQd,Ad,↓kv_l,↓kl_b,hf,hlen,jD,iN,Tryz.f6]
    |true=>
     rw[hf2]at hf kc_i kc_w;obtain⟨u,u1,u2,u3,u4,u5,u6,u7⟩:=htr hf2;have kl_t2:=fun {R:Type} {n:Nat} {k:A->Option R} (hn:13<=n)=> @kl_t R n k hn u u2 u7 u4 hL;have kc_b2:=fun {R:Type} {n:Nat} {hq:H} {k:KA R} (hn:8<=n)=> @kc_b R n hq k hn u u3 u7 u5 hL;rw[u6]at kc_b2;clear kl_t kc_b u4 htr;obtain _|n:=n;omega
     simp-implicitDefEqProofs (maxSteps:=9^7) (disch:=try exact Dz) only[↓DN,↓kAsg,↓kRet,UP,simprocAttr,↓eT,↓bU,↓kB,↓aGt,hsz,hsz2,↓kd1,↓kd2,↓kc_i,↓kc_w,hv,ha,r2,hal2,↓loop_a,↓kc_q,htk,hQd,Ad,↓kv_l,↓kl_b,↓kv_t,↓kl_t2,↓kc_b2,u1,hf,hlen,jD,iN,Tryz.f6]
end Ev
end Go.Proofs.YtahbdkmimmnadaaGreatDoor
