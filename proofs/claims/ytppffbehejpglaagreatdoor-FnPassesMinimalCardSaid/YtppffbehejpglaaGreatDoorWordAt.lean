/-
  Products as the reference searches them, walked: the nodes to which a letter leads.
-/
import Derived.Test.YtppffbehejpglaaGreatDoorNetX
import Derived.Test.YtppffbehejpglaaGreatDoorSafe
import Derived.Test.YtppffbehejpglaaGreatDoorAutM
set_option linter.unusedSimpArgs false
set_option linter.unusedVariables false
set_option linter.unusedSectionVars false
set_option maxRecDepth 8000
set_option maxHeartbeats 4000000
namespace Go.Proofs.YtppffbehejpglaaGreatDoor
namespace Ev
section
variable{R:Type}{L n:Nat}
theorem aED(hn:1<=n){c1 c2 c3 c4 c5 c6:D}{zs ss out ch:List Int}{l z:Int}{i q:Nat}(hi:i<zs.length)(hq:q<out.length)(hz:zs.getD i 0=z)(hzl:zs.length<=4000)(hol:out.length<=4294967290)(hcl:ch.length<=4294967290)(hb:0<=out.getD q 0*z/\out.getD q 0*z<=4294967296)(hcb:∀c∈ch,0<=c/\c<=65536){k:KE R}:∀(j p m:Nat) (o:List Int) (len:Nat) (hp:p+j=ch.length) (hm:j<m) (hlen:len=o.length) (ho:o.length+j<=4294967290),
  aT env (aA env L n) L 0 [] Bz8 (lQ 2) (U1 (Z4 (U2 (U1 (Z4 (Z2 (Z1 (U32 (U8 (U4 (U2 (U1 ([]))))))))))))) m (Y1 (.d (.ivs zs.length (ints zs))::.d (.ivs ss.length (ints ss))::nI l::.ptr 0 0 0::Y2 (Y1 (.d .nils::.sl 1 0 0 out.length::nI i::.d (.ivs ch.length (ints ch))::.sl 2 0 0 len::nI q::nI p::Y32 (Y8 (Y4 (Y2 (Y1 ([]))))))))) [.box [.d c1,.d c2,.d c3,.d c4,.d c5,.d c6],.arr (ints out) 1 0,.arr (ints o) 1 0] k
  =k (.exit 4) (Y1 (.d (.ivs zs.length (ints zs))::.d (.ivs ss.length (ints ss))::nI l::.ptr 0 0 0::Y2 (Y1 (.d .nils::.sl 1 0 0 out.length::nI i::.d (.ivs ch.length (ints ch))::.sl 2 0 0 (o++(ch.drop p).map fun c=>out.getD q 0*z+c).length::nI q::nI (ch.length)::Y32 (Y8 (Y4 (Y2 (Y1 ([]))))))))) [.box [.d c1,.d c2,.d c3,.d c4,.d c5,.d c6],.arr (ints out) 1 0,.arr (ints (o++(ch.drop p).map fun c=>out.getD q 0*z+c)) 1 0]:=by
 intro j;have hci:(i:Int)<zs.length:=om;have hcq:(q:Int)<out.length:=om;have hi0:(0:Int)<=i:=om;have hq0:(0:Int)<=q:=om
 induction j with
 |zero=>
  intro p m o len hp hm hlen ho;obtain _|m:=m;omega;obtain rfl:p=ch.length:=om;subst hlen
  simp-implicitDefEqProofs (maxSteps:=9^7) (disch:=try exact Dz) only[↓DN,↓kRet,UP,simprocAttr,Ah,JQ,GI,Tryz.f150];simp
 |succ j ih=>
  intro p m o len hp hm hlen ho;obtain _|m:=m;omega;subst hlen;have hk:p<ch.length:=om;have hc:(p:Int)<ch.length:=om;have hp0:(0:Int)<=p:=om;obtain⟨b1,b2⟩:=hcb _ (lR hk);have ih':=ih (p+1) m (o++[out.getD q 0*z+ch.getD p 0]) (o.length+1) om om smp (by rw[Af,Da];omega);rw[cs1 p]at ih';rw[cC hk (d:=0),Aj];simp only[Ao,Ax,Aq]at ih';clear ih
  simp-implicitDefEqProofs (maxSteps:=9^7) (disch:=try exact Dz) only[↓DN,↓kRet,UP,simprocAttr,hci,hcq,hi0,hq0,hc,hp0,hz,↓ih',JQ,GI,Tryz.f150]
theorem aMN(z:Int)(ch:List Int):∀out:List Int,(mulN out z ch).length=out.length*ch.length
 | []=>by simp[mulN]
 |o::out=>by
  have ih:=aMN z ch out;unfold mulN at ih|-;rw[List.flatMap_cons,Af,ih,Am,Ae,Nat.succ_mul,De]
theorem aDk(hn:1<=n)(hL:2^60<=L){c1 c2 c3 c4 c5 c6:D}{zs ss out ch:List Int}{l z:Int}{i:Nat}(hi:i<zs.length)(hz:zs.getD i 0=z)(hzl:zs.length<=4000)(hol:out.length<=4294967290)(hcl:ch.length<=4294967290)(hb:∀o∈out,0<=o*z/\o*z<=4294967296)(hcb:∀c∈ch,0<=c/\c<=65536){k:KE R}:∀(j q m:Nat) (o:List Int) (len:Nat) (hp:q+j=out.length) (hm:j<m) (hlen:len=o.length) (ho:o.length+j*ch.length<=4294967290),
  aT env (aA env L n) L 0 [] Bz8 (lQ 1) (U1 (Z4 (U2 (U1 (Z4 (Z2 (U32 (U16 ([]))))))))) m (Y1 (.d (.ivs zs.length (ints zs))::.d (.ivs ss.length (ints ss))::nI l::.ptr 0 0 0::Y2 (Y1 (.d .nils::.sl 1 0 0 out.length::nI i::.d (.ivs ch.length (ints ch))::.sl 2 0 0 len::nI q::Y32 (Y16 ([])))))) [.box [.d c1,.d c2,.d c3,.d c4,.d c5,.d c6],.arr (ints out) 1 0,.arr (ints o) 1 0] k
  =k (.exit 2) (Y1 (.d (.ivs zs.length (ints zs))::.d (.ivs ss.length (ints ss))::nI l::.ptr 0 0 0::Y2 (Y1 (.d .nils::.sl 1 0 0 out.length::nI i::.d (.ivs ch.length (ints ch))::.sl 2 0 0 (o++mulN (out.drop q) z ch).length::nI (out.length)::Y32 (Y16 ([])))))) [.box [.d c1,.d c2,.d c3,.d c4,.d c5,.d c6],.arr (ints out) 1 0,.arr (ints (o++mulN (out.drop q) z ch)) 1 0]:=by
 intro j
 induction j with
 |zero=>
  intro q m o len hp hm hlen ho;obtain _|m:=m;omega;obtain rfl:q=out.length:=om;subst hlen
  simp-implicitDefEqProofs (maxSteps:=9^7) (disch:=try exact Dz) only[↓DN,↓kRet,UP,simprocAttr,Ah,LW,GZ,Tryz.f150];simp[mulN]
 |succ j ih=>
  intro q m o len hp hm hlen ho;obtain _|m:=m;omega;subst hlen;have hk:q<out.length:=om;have hc:(q:Int)<out.length:=om;have hq0:(0:Int)<=q:=om;have hb':=hb _ (lR hk);rw[Nat.succ_mul]at ho;have loop_c:=fun {R n k} hn=> @aED R L n hn c1 c2 c3 c4 c5 c6 zs ss out ch l z i q hi hk hz hzl hol hcl hb' hcb k ch.length 0 L o o.length om om rfl om;simp only[Ba,Ap]at loop_c;have ih':=ih (q+1) m (o++ch.map fun c=>out.getD q 0*z+c) _ om om rfl (by rw[Af,Am];omega);rw[cs1 q]at ih'
  have e:mulN (out.drop q) z ch=(ch.map fun c=>out.getD q 0*z+c)++mulN (out.drop (q+1)) z ch:=by
   rw[cC hk (d:=0)];rfl
  rw[e,<-Ao];clear ih e;generalize(ch.map fun c=>out.getD q 0*z+c)=w at *;simp only[Af]at ih' loop_c|-
  simp-implicitDefEqProofs (maxSteps:=9^7) (disch:=try exact Dz) only[↓DN,↓kAsg,↓kRet,UP,simprocAttr,hc,↓loop_c,↓ih',LW,GZ,Tryz.f150]
def nexG(ch:Nat->List Int)(zs:List Int):Nat->Nat->List Int->List Int
 |0,_,out=>out
 |j+1,i,out=>nexG ch zs j (i+1) (mulN out (zs.getD i 0) (ch i))
theorem aTU{z b b2:Int}{ch out:List Int}(hz:0<=z)(hb:b*z+(z-1)<=b2)(ho:∀o∈out,0<=o/\o<=b)(hc:∀c∈ch,0<=c/\c<z):∀x∈mulN out z ch,0<=x/\x<=b2:=by
 intro x hx;obtain⟨o,h1,h2⟩:=Ck.1 hx;obtain⟨c,h3,rfl⟩:=Av.1 h2;obtain⟨o0,o1⟩:=ho o h1;obtain⟨c0,c1⟩:=hc c h3;have m0:0<=o*z:=Int.mul_nonneg o0 hz;have m1:o*z<=b*z:=Ej o1 hz;omega
theorem aDF(hn:6<=n)(hL:2^60<=L){c1 c2 c3 c4 c5 c6:D}{zs ss:List Int}{l:Int}{ch:Nat->List Int}{bnd:Nat->Int}(hzs:zs.length=ss.length)(hsl:ss.length<=6)
  (kc_c:∀(i:Nat),i<ss.length->∀ {R:Type} {n:Nat} {hq:H} {k:KA R},5<=n->aX env (aA env L n) hq 159 [.agg [.d c1,.d c2,.d c3,.d c4,.d c5,.d c6],nI i,nI (ss.getD i 0),nI l] k=k (.d (.ivs (ch i).length (ints (ch i)))) hq)
  (hz:∀i,i<ss.length->0<zs.getD i 0/\zs.getD i 0<=65536) (hcl:∀i,i<ss.length->(ch i).length<=16) (hcb:∀i,i<ss.length->∀c∈ch i,0<=c/\c<zs.getD i 0) (hbn:∀i,i<ss.length->0<=bnd i/\bnd i*zs.getD i 0<=4294967296/\bnd i*zs.getD i 0+(zs.getD i 0-1)<=bnd (i+1)) {k:KE R}:∀(j i m:Nat) (out:List Int) (len:Nat) (hp:i+j=ss.length) (hm:j<m) (hlen:len=out.length) (ho:out.length<=16^i) (hob:∀o∈out,0<=o/\o<=bnd i),
  aT env (aA env L n) L 0 [] Bz8 (lQ 0) (U1 (Z4 (U2 (U1 (Z2 (Z1 (U32 (U16 (U2 (U1 ([]))))))))))) m (Y1 (.d (.ivs zs.length (ints zs))::.d (.ivs ss.length (ints ss))::nI l::.ptr 0 0 0::Y2 (Y1 (.d .nils::.sl 1 0 0 len::nI i::Y32 (Y16 (Y2 (Y1 ([])))))))) [.box [.d c1,.d c2,.d c3,.d c4,.d c5,.d c6],.arr (ints out) 1 0] k
  =k (.exit 0) (Y1 (.d (.ivs zs.length (ints zs))::.d (.ivs ss.length (ints ss))::nI l::.ptr 0 0 0::Y2 (Y1 (.d .nils::.sl 1 0 0 (nexG ch zs j i out).length::nI (ss.length)::Y32 (Y16 (Y2 (Y1 ([])))))))) [.box [.d c1,.d c2,.d c3,.d c4,.d c5,.d c6],.arr (ints (nexG ch zs j i out)) 1 0]:=by
 intro j
 induction j with
 |zero=>
  intro i m out len hp hm hlen ho hob;obtain _|m:=m;omega;obtain rfl:i=ss.length:=om;subst hlen
  simp-implicitDefEqProofs (maxSteps:=9^7) (disch:=try exact Dz) only[↓DN,↓kRet,UP,simprocAttr,Ah,KI,G4,Tryz.f150]<;>rfl
 |succ j ih=>
  intro i m out len hp hm hlen ho hob;obtain _|m:=m;omega;subst hlen;have hk:i<ss.length:=om;have hkz:i<zs.length:=om;have hc:(i:Int)<ss.length:=om;have hi0:(0:Int)<=i:=om;obtain⟨z1,z2⟩:=hz i hk;obtain⟨n0,n1,n2⟩:=hbn i hk;have hch:=hcl i hk;have hcb':=hcb i hk;have p16:(16:Nat)^i<=16^5:=Nat.pow_le_pow_right dc om;have hol:out.length<=1048576:=Bp ho (Bp p16 dc);have kc_d:=fun {R:Type} {n:Nat} {hq:H} {k:KA R} (hn:5<=n)=>kc_c i hk (R:=R) (n:=n) (hq:=hq) (k:=k) hn;have hmul:out.length*(ch i).length<=16777216:=Bp (Nat.mul_le_mul hol hch) dc
  have loop_c:=fun {R n k} hn=> @aDk R L n hn hL c1 c2 c3 c4 c5 c6 zs ss out (ch i) l (zs.getD i 0) i hkz rfl om om om (fun o h=>by
   obtain⟨o0,o1⟩:=hob o h;exact⟨Int.mul_nonneg o0 om,Int.le_trans (Ej o1 om) n1⟩) (fun c h=>by have:=hcb' c h;omega) k out.length 0 L [] 0 om om rfl (by simp;omega)
  simp only[Ba,Ap,Aq,kG]at loop_c;have hb2:=aTU (b2:=bnd (i+1)) om n2 hob hcb'
  have hl2:(mulN out (zs.getD i 0) (ch i)).length<=16^(i+1):=by
   rw[aMN,Nat.pow_succ];exact Nat.mul_le_mul ho hch
  have ih':=ih (i+1) m (mulN out (zs.getD i 0) (ch i)) _ om om rfl hl2 hb2;rw[cs1 i]at ih';simp only[nexG];clear ih hb2 hl2 hmul hbn hcb hcl hz kc_c n0 n1 n2 hcb';generalize mulN out (zs.getD i 0) (ch i)=w at *;generalize ch i=chi at *
  simp-implicitDefEqProofs (maxSteps:=9^7) (disch:=try exact Dz) only[↓DN,↓kAsg,↓kRet,UP,simprocAttr,hc,hi0,↓kc_d,↓loop_c,↓ih',KI,G4,Tryz.f150]
theorem aA7(hn:7<=n)(hL:2^60<=L){n1 n2 n3:Nat}{d1 d2 d3:List D}{al kd go:Int}{zs ss:List Int}{l:Int}{ch:Nat->List Int}{bnd:Nat->Int}(hzs:zs.length=ss.length)(hsl:ss.length<=6)
  (kc_c:∀(i:Nat),i<ss.length->∀ {R:Type} {n:Nat} {hq:H} {k:KA R},5<=n->aX env (aA env L n) hq 159 [.agg [.d (.ivs n1 d1),.d (.ivs n2 d2),.d (.ivs n3 d3),nI al,nI kd,nI go],nI i,nI (ss.getD i 0),nI l] k=k (.d (.ivs (ch i).length (ints (ch i)))) hq)
  (hz:∀i,i<ss.length->0<zs.getD i 0/\zs.getD i 0<=65536) (hcl:∀i,i<ss.length->(ch i).length<=16) (hcb:∀i,i<ss.length->∀c∈ch i,0<=c/\c<zs.getD i 0) (hb0:0<=bnd 0) (hbn:∀i,i<ss.length->0<=bnd i/\bnd i*zs.getD i 0<=4294967296/\bnd i*zs.getD i 0+(zs.getD i 0-1)<=bnd (i+1)):
  aA env L n 150 [.agg [.d (.ivs n1 d1),.d (.ivs n2 d2),.d (.ivs n3 d3),nI al,nI kd,nI go],.d (.ivs zs.length (ints zs)),.d (.ivs ss.length (ints ss)),nI l] []=some (.d (.ivs (nexG ch zs ss.length 0 [0]).length (ints (nexG ch zs ss.length 0 [0]))),[]):=by
 have loop_c:=fun {R n k} hn=> @aDF R L n hn hL (.ivs n1 d1) (.ivs n2 d2) (.ivs n3 d3) (.int .i64 al) (.int .i64 kd) (.int .i64 go) zs ss l ch bnd hzs hsl kc_c hz hcl hcb hbn k ss.length 0 L [0] 1 om om rfl smp (fun o h=>by simp at h;subst h;exact⟨Int.le_refl _,hb0⟩);simp only[Ap]at loop_c;generalize nexG ch zs ss.length 0 [0]=w at *;have e:ints [0]=[.int .i64 0]:=rfl;rw[e]at loop_c;have e4:(ints w).take w.length=ints w:=cK (Ab _);clear hz hcl hcb hbn kc_c;obtain _|n:=n;omega
 simp-implicitDefEqProofs (maxSteps:=9^7) (disch:=try exact Dz) only[↓DN,↓kAsg,↓kRet,UP,simprocAttr,↓loop_c,e4,aMi,aCK,Tryz.f150]
end
section
variable{R:Type}{L n:Nat}
def tabD(t:List (List (List Int))):List D:=t.map fun r=>.ivs r.length (aE r)
theorem aT3:tabD []=[]:=rfl
theorem P5{l:List (List (List Int))}:(tabD l).length=l.length:=by simp[tabD]
theorem aD5{l:List (List (List Int))}{k:Nat}(h:l.length<=k):(tabD l).take k=tabD l:=Ce (by rw[P5];exact h)
theorem aM5{l:List (List (List Int))}{k:Nat}(h:k<l.length):(((tabD l).drop k).map A.d).head? =some (.d (.ivs (l.getD k []).length (aE (l.getD k [])))):=by
 rw[List.head?_map,Di,tabD,Bh,Aa,Ad h];rfl
theorem aUy{l:List (List (List Int))}{r:List (List Int)}{z:Nat}(h:z=r.length):tabD l++[.ivs z (aE r)]=tabD (l++[r]):=by
 subst h;simp[tabD]
theorem TE:type_of% (AI @P5 (AI @aD5 @aM5)):=
 ⟨@P5,@aD5,@aM5⟩
theorem aDD(hn:8<=n)(hL:2^60<=L){c1 c2 c3 c4 c5 c6:D}{zs ss ls:List Int}{nx:Int->List Int}{out:List (List (List Int))}{tt v:Int}{ol:Nat}(hll:ls.length<=1000)(hzl:zs.length<=4000)(hsl:ss.length<=4000)(hol:out.length<=4294967290)
  (kc_x:∀(l:Int),l∈ls->∀ {R:Type} {n:Nat} {hq:H} {k:KA R},7<=n->aX env (aA env L n) hq 150 [.agg [.d c1,.d c2,.d c3,.d c4,.d c5,.d c6],.d (.ivs zs.length (ints zs)),.d (.ivs ss.length (ints ss)),nI l] k=k (.d (.ivs (nx l).length (ints (nx l)))) hq)
  {k:KE R}:∀(j p m:Nat) (o:List (List Int)) (len:Nat) (hp:p+j=ls.length) (hm:j<m) (hlen:len=o.length) (ho:o.length+j<=4000),
  aT env (aA env L n) L 0 [] Bz19 (tI 1) (U1 (Z2 (Z1 (U2 (Z4 (Z2 (Z1 (U32 (U2 (U1 ([]))))))))))) m (Y1 (.d (.ivs zs.length (ints zs))::nI tt::.ptr 0 0 0::Y2 (.d .nils::.sl 1 0 0 ol::.d (.ivs ls.length (ints ls))::nI v::.d (.ivs ss.length (ints ss))::.sl 2 0 0 len::nI p::Y32 (Y2 (Y1 ([])))))) [.box [.d c1,.d c2,.d c3,.d c4,.d c5,.d c6],.arr (tabD out) 1 0,.arr (aE o) 1 0] k
  =k (.exit 2) (Y1 (.d (.ivs zs.length (ints zs))::nI tt::.ptr 0 0 0::Y2 (.d .nils::.sl 1 0 0 ol::.d (.ivs ls.length (ints ls))::nI v::.d (.ivs ss.length (ints ss))::.sl 2 0 0 (o++(ls.drop p).map nx).length::nI (ls.length)::Y32 (Y2 (Y1 ([])))))) [.box [.d c1,.d c2,.d c3,.d c4,.d c5,.d c6],.arr (tabD out) 1 0,.arr (aE (o++(ls.drop p).map nx)) 1 0]:=by
 intro j
 induction j with
 |zero=>
  intro p m o len hp hm hlen ho;obtain _|m:=m;omega;obtain rfl:p=ls.length:=om;subst hlen
  simp-implicitDefEqProofs (maxSteps:=9^7) (disch:=try exact Dz) only[↓DN,↓kRet,UP,simprocAttr,Ah,LG,G3,Tryz.f136];simp
 |succ j ih=>
  intro p m o len hp hm hlen ho;obtain _|m:=m;omega;subst hlen;have hk:p<ls.length:=om;have hc:(p:Int)<ls.length:=om;have hp0:(0:Int)<=p:=om;have kc_y:=fun {R:Type} {n:Nat} {hq:H} {k:KA R} (hn:7<=n)=>kc_x _ (lR hk) (R:=R) (n:=n) (hq:=hq) (k:=k) hn;have ih':=ih (p+1) m (o++[nx (ls.getD p 0)]) (o.length+1) om om smp (by rw[Af,Da];omega);rw[cs1 p]at ih';rw[cC hk (d:=0),Aj];simp only[Ao,Ax,Aq]at ih';clear ih kc_x;generalize nx (ls.getD p 0)=w at *
  simp-implicitDefEqProofs (maxSteps:=9^7) (disch:=try exact Dz) only[↓DN,↓kRet,UP,simprocAttr,LA,hc,hp0,↓kc_y,pJ,↓ih',LG,G3,Tryz.f136]
theorem aEi(hn:8<=n)(hL:2^60<=L){c1 c2 c3 c4 c5 c6:D}{zs ls:List Int}{nx:Int->Int->List Int}{tt:Nat}(hll:ls.length<=1000)(hzl:zs.length<=1000)(htt:tt<=65536)(hzp:∀z∈zs,0<z/\z<=65536)
  (kc_x:∀(v:Nat) (l:Int),v<tt->l∈ls->∀ {R:Type} {n:Nat} {hq:H} {k:KA R},7<=n->aX env (aA env L n) hq 150 [.agg [.d c1,.d c2,.d c3,.d c4,.d c5,.d c6],.d (.ivs zs.length (ints zs)),.d (.ivs zs.length (ints (decN zs v))),nI l] k=k (.d (.ivs (nx v l).length (ints (nx v l)))) hq)
  {k:KE R}:∀(j v m:Nat) (o:List (List (List Int))) (len:Nat) (hp:v+j=tt) (hm:j<m) (hlen:len=o.length) (ho:o.length=v),
  aT env (aA env L n) L 0 [] Bz19 (tI 0) (U1 (Z2 (Z1 (U2 (Z4 (U32 (U4 (U2 ([]))))))))) m (Y1 (.d (.ivs zs.length (ints zs))::nI tt::.ptr 0 0 0::Y2 (.d .nils::.sl 1 0 0 len::.d (.ivs ls.length (ints ls))::nI v::Y32 (Y4 (Y2 ([])))))) [.box [.d c1,.d c2,.d c3,.d c4,.d c5,.d c6],.arr (tabD o) 1 0] k
  =k (.exit 0) (Y1 (.d (.ivs zs.length (ints zs))::nI tt::.ptr 0 0 0::Y2 (.d .nils::.sl 1 0 0 (o++(List.range' v j).map fun(x:Nat)=>ls.map (nx x)).length::.d (.ivs ls.length (ints ls))::nI tt::Y32 (Y4 (Y2 ([])))))) [.box [.d c1,.d c2,.d c3,.d c4,.d c5,.d c6],.arr (tabD (o++(List.range' v j).map fun(x:Nat)=>ls.map (nx x))) 1 0]:=by
 intro j
 induction j with
 |zero=>
  intro v m o len hp hm hlen ho;obtain _|m:=m;omega;obtain rfl:v=tt:=om;subst hlen
  simp-implicitDefEqProofs (maxSteps:=9^7) (disch:=try exact Dz) only[↓DN,↓kRet,UP,simprocAttr,Ah,MI,GW,Tryz.f136]
  all_goals simp
 |succ j ih=>
  intro v m o len hp hm hlen ho;obtain _|m:=m;omega;subst hlen;have hc:(v:Int)<tt:=om;have hv0:(0:Int)<=v:=om;have hdl:=aDm zs v;have kc_d:=@WH L zs v hzp hzl hv0 om hL;have loop_c:=fun {R n k} hn=> @aDD R L n hn hL c1 c2 c3 c4 c5 c6 zs (decN zs v) ls (nx v) o tt v o.length hll om om om (fun l hl {R n hq k} hn=>by rw[hdl];exact kc_x v l om hl hn) k ls.length 0 L [] 0 om om rfl (by simp;omega);simp only[Ba,Ap,Aq,F3,hdl]at loop_c;have ih':=ih (v+1) m (o++[ls.map (nx v)]) (o.length+1) om om smp (by simp;omega);rw[cs1 v]at ih';rw[Ec,Aj];simp only[Ao,Ax,Aq]at ih';clear ih kc_x;have hwl:(ls.map (nx v)).length=ls.length:=smp;generalize ls.map (nx v)=w at *;generalize decN zs v=ss at *
  simp-implicitDefEqProofs (maxSteps:=9^7) (disch:=try exact Dz) only[↓DN,↓kAsg,↓kRet,UP,simprocAttr,TE,LA,hc,↓kc_d,↓loop_c,aUy,↓ih',MI,GW,Tryz.f136]
theorem aLY(hn:9<=n)(hL:2^60<=L){n1 n2 n3:Nat}{d1 d2 d3:List D}{kd go:Int}{zs:List Int}{al:Int}{nx:Int->Int->List Int}{tt:Nat}(hzl:zs.length<=1000)(htt:tt<=65536)(hzp:∀z∈zs,0<z/\z<=65536)
  (kc_x:∀(v:Nat) (l:Int),v<tt->l∈aB al->∀ {R:Type} {n:Nat} {hq:H} {k:KA R},7<=n->aX env (aA env L n) hq 150 [.agg [.d (.ivs n1 d1),.d (.ivs n2 d2),.d (.ivs n3 d3),nI al,nI kd,nI go],.d (.ivs zs.length (ints zs)),.d (.ivs zs.length (ints (decN zs v))),nI l] k=k (.d (.ivs (nx v l).length (ints (nx v l)))) hq):
  aA env L n 136 [.agg [.d (.ivs n1 d1),.d (.ivs n2 d2),.d (.ivs n3 d3),nI al,nI kd,nI go],.d (.ivs zs.length (ints zs)),nI tt] []=some (.d (.ivs tt (tabD ((List.range tt).map fun(x:Nat)=>(aB al).map (nx x)))),[]):=by
 have hll:(aB al).length<=1000:=by have:=bO al;omega
 have loop_c:=fun {R n k} hn=> @aEi R L n hn hL (.ivs n1 d1) (.ivs n2 d2) (.ivs n3 d3) (.int .i64 al) (.int .i64 kd) (.int .i64 go) zs (aB al) nx tt hll hzl htt hzp kc_x k tt 0 L [] 0 om om rfl rfl;simp only[Ap,Aq,aT3,<-List.range_eq_range']at loop_c;have hwl:((List.range tt).map fun(x:Nat)=>(aB al).map (nx x)).length=tt:=smp;generalize(List.range tt).map (fun(x:Nat)=>(aB al).map (nx x))=w at *;have e4:(tabD w).take tt=tabD w:=aD5 om;clear kc_x hzp;obtain _|n:=n;omega
 simp-implicitDefEqProofs (maxSteps:=9^7) (disch:=try exact Dz) only[↓DN,↓kAsg,↓kRet,UP,simprocAttr,↓gJ,TE,↓loop_c,e4,hwl,aNE,aCg,Tryz.f136]
end
section
variable{R:Type}{L n:Nat}
def D7(tab:List (List (List Int)))(aN:Nat):Prop:=tab.length=aN/\∀i,i<aN->(tab.getD i []).length<=1000/\∀r∈tab.getD i [],r.length<=4294967290/\∀x∈r,0<=x/\x<aN
theorem aE2(hn:3<=n)(hL:2^60<=L){tab:List (List (List Int))}{aN:Nat}{d:Int}(ht:D7 tab aN)(htt:aN<=65536)(hd:1<=d)(hd2:d<=4294967296){k:KE R}:∀(j i m:Nat) (q:List Int) (b:Bool) (len:Nat) (hi:i+j=aN) (hm:j<m) (hq:q.length=aN) (hlen:len=aN),
  aT env (aA env L n) L 1 [] Bz21 (rL 1) (Z2 (U2 (Z2 (Z1 (U16 (U8 (U4 ([])))))))) m (.d (.ivs tab.length (tabD tab))::.sl 0 0 0 len::Y2 (.d (.bool b)::nI d::nI i::Y16 (Y8 (Y4 ([]))))) [.arr (ints q) 1 0] k
  =k (.exit 2) (.d (.ivs tab.length (tabD tab))::.sl 0 0 0 len::Y2 (.d (.bool (((dH tab d j i (q,b)).2)))::nI d::nI aN::Y16 (Y8 (Y4 ([]))))) [.arr (ints (dH tab d j i (q,b)).1) 1 0]:=by
 obtain⟨tl,ht⟩:=ht;intro j
 induction j with
 |zero=>
  intro i m q b len hi hm hq hlen;obtain _|m:=m;omega;obtain rfl:i=aN:=om;subst hlen
  simp-implicitDefEqProofs (maxSteps:=9^7) (disch:=try exact Dz) only[↓DN,↓kRet,UP,simprocAttr,Ah,sW,uI,Tryz.f139]<;>rfl
 |succ j ih=>
  intro i m q b len hi hm hq hlen;obtain _|m:=m;omega;subst hlen;have hk:i<q.length:=om;have hkt:i<tab.length:=om;have hc:(i:Int)<len:=om;have hi0:(0:Int)<=i:=om;obtain⟨t1,t2⟩:=ht i om;have kl_n:=@aOH L (tab.getD i []) q (d-1) om (by rw[hq];exact t2) om hL;rw[hq]at kl_n;simp only[dH]
  by_cases h1:q.getD i 0<0
  ·by_cases h2:OP (tab.getD i []) q (d-1)=true
   ·have ih':=ih (i+1) m (q.set i d) true len om om (by simpa using hq) rfl;rw[cs1 i]at ih';rw[if_pos ⟨h1,h2⟩];clear ih;rw[h2]at kl_n
    simp-implicitDefEqProofs (maxSteps:=9^7) (disch:=try exact Dz) only[↓DN,↓kAsg,↓kRet,UP,simprocAttr,↓WT,TE,hc,hi0,h1,↓kl_n,↓aBm,↓ih',sW,uI,Tryz.f139]
   ·have ih':=ih (i+1) m q b len om om hq rfl;rw[cs1 i]at ih';rw[if_neg fun h=>h2 h.2];clear ih;rw[Bool.not_eq_true]at h2;rw[h2]at kl_n
    simp-implicitDefEqProofs (maxSteps:=9^7) (disch:=try exact Dz) only[↓DN,↓kRet,UP,simprocAttr,↓WT,TE,hc,hi0,h1,↓kl_n,↓ih',sW,uI,Tryz.f139]
  ·have ih':=ih (i+1) m q b len om om hq rfl;rw[cs1 i]at ih';rw[if_neg fun h=>h1 h.1];clear ih kl_n
   simp-implicitDefEqProofs (maxSteps:=9^7) (disch:=try exact Dz) only[↓DN,↓kRet,UP,simprocAttr,hc,hi0,h1,↓ih',sW,uI,Tryz.f139]
def dEnd(tab:List (List (List Int))):Nat->Int->List Int->Int
 |0,d,_=>d
 |j+1,d,dist=>if(dH tab d dist.length 0 (dist,false)).2=true then dEnd tab j (d+1) (dH tab d dist.length 0 (dist,false)).1 else d+1
theorem QL{tab:List (List (List Int))}{d:Int}:∀(j i:Nat) (q:List Int×Bool),(dH tab d j i q).1.length=q.1.length
 |0,_,q=>rfl
 |j+1,i,q=>by
  simp only[dH]
  split
  ·rw[QL j];simp
  ·exact QL j _ q
theorem aEO{R:Type}{L n m tt len:Nat}{tab:List (List (List Int))}{d:Int}{h:List Int}{k:KE R}:
  aT env (aA env L n) L 1 [] Bz21 (rL 0) Bz57 (m+1) (.d (.ivs tt (tabD tab))::.sl 0 0 0 len::Y2 (.d (.bool false)::nI d::Y16 (Y8 (Y4 (Y1 ([])))))) [.arr (ints h) 1 0] k
  =k (.exit 0) (.d (.ivs tt (tabD tab))::.sl 0 0 0 len::Y2 (.d (.bool false)::nI d::Y16 (Y8 (Y4 (Y1 ([])))))) [.arr (ints h) 1 0]:=by
 simp-implicitDefEqProofs (maxSteps:=9^7) (disch:=try exact Dz) only[↓DN,UP,simprocAttr,BB,zX,Tryz.f139]
theorem aGn(hn:3<=n)(hL:2^60<=L){tab:List (List (List Int))}{aN:Nat}(ht:D7 tab aN)(htt:aN<=65536){k:KE R}:∀(j:Nat) (d:Int) (m:Nat) (q:List Int) (len:Nat) (hc:q.countP (·<0)<j) (hm:j<m) (hd:1<=d) (hd2:d+j<=4294967296) (hq:q.length=aN) (hlen:len=aN),
  aT env (aA env L n) L 1 [] Bz21 (rL 0) Bz57 m (.d (.ivs tab.length (tabD tab))::.sl 0 0 0 len::Y2 (.d (.bool true)::nI d::Y16 (Y8 (Y4 (Y1 ([])))))) [.arr (ints q) 1 0] k
  =k (.exit 0) (.d (.ivs tab.length (tabD tab))::.sl 0 0 0 len::Y2 (.d (.bool false)::nI (dEnd tab j d q)::Y16 (Y8 (Y4 (Y1 ([])))))) [.arr (ints (dC tab j d q)) 1 0]:=by
 intro j
 induction j with
 |zero=>intro d m q len hc;omega
 |succ j ih=>
  intro d m q len hc hm hd hd2 hq hlen;obtain _|m:=m;omega;subst hlen;have loop_c:=fun {R n k} hn=> @aE2 R L n hn hL tab len d ht htt hd om k len 0 L q false len om om hq rfl;simp only[Ap]at loop_c;have hcnt:=aBz (tab:=tab) (d:=d) om len 0 (q,false) (by simp;omega);have hlen2:=QL (tab:=tab) (d:=d) len 0 (q,false);simp only[dC,dEnd,hq];generalize dH tab d len 0 (q,false)=r at *;obtain⟨r0,r1⟩:=r;simp only at loop_c hcnt hlen2|-
  cases r1 with
  |true=>
   have hlt:r0.countP (·<0)<q.countP (·<0):=by
    rcases hcnt.2 rfl with h|h
    ·cases h
    ·exact h
   have ih':=ih (d+1) m r0 len om om om om om rfl;simp only[if_true];clear ih hcnt
   simp-implicitDefEqProofs (maxSteps:=9^7) (disch:=try exact Dz) only[↓DN,↓kAsg,↓kRet,UP,simprocAttr,↓loop_c,↓ih',BB,zX,Tryz.f139]
  |false=>
   simp only[Al,if_false];clear ih hcnt;obtain _|m:=m;omega;have loop_e:=fun {d:Int} {h:List Int}=> @aEO R L n m tab.length len tab d h k
   simp-implicitDefEqProofs (maxSteps:=9^7) (disch:=try exact Dz) only[↓DN,↓kAsg,↓kRet,UP,simprocAttr,↓loop_c,↓loop_e,BB,zX,Tryz.f139]
theorem aNZ(hn:4<=n)(hL:2^60<=L){tab:List (List (List Int))}{aN:Nat}(ht:D7 tab aN)(htt:aN<=65536)(dist:List Int)(hd:dist.length=aN):
  aA env L n 139 [.d (.ivs tab.length (tabD tab)),.sl 0 0 0 dist.length] [.arr (ints dist) 1 0]=some (.tup [],[.arr (ints (dC tab (aN+1) 1 dist)) 1 0]):=by
 have hcl:dist.countP (·<0)<aN+1:=by have:=List.countP_le_length (p:=(·<0)) (l:=dist);omega
 have loop_c:=fun {R n k} hn=> @aGn R L n hn hL tab aN ht htt k (aN+1) 1 L dist aN hcl om om om hd rfl;rw[hd];generalize dC tab (aN+1) 1 dist=w at *;obtain _|n:=n;omega
 simp-implicitDefEqProofs (maxSteps:=9^7) (disch:=try exact Dz) only[↓DN,↓kAsg,UP,simprocAttr,↓loop_c,aOi,aGE,Tryz.f139]
theorem aB4(hn:3<=n)(hL:2^60<=L){tab:List (List (List Int))}{dist at_ list:List Int}{d kk:Int}{ii:Nat}(hdl:dist.length<=65536)(hll:list.length<=4294967290)(hr:∀x∈list,0<=x/\x<dist.length){k:KE R}:∀(j p m:Nat) (o:List Int) (len:Nat) (hp:p+j=list.length) (hm:j<m) (hlen:len=o.length) (ho:o.length+j<=4294967290),
  aT env (aA env L n) L 0 [] Bz24 (qT 1) (Z4 (Z1 (U4 (U1 (Z4 (Z1 (U32 (U16 (U1 ([])))))))))) m (.d (.ivs tab.length (tabD tab))::.d (.ivs dist.length (ints dist))::.d (.ivs at_.length (ints at_))::nI kk::nI d::Y4 (Y1 (.d .nils::.sl 0 0 0 len::nI ii::.d (.ivs list.length (ints list))::nI p::Y32 (Y16 (Y1 ([])))))) [.arr (ints o) 1 0] k
  =k (.exit 2) (.d (.ivs tab.length (tabD tab))::.d (.ivs dist.length (ints dist))::.d (.ivs at_.length (ints at_))::nI kk::nI d::Y4 (Y1 (.d .nils::.sl 0 0 0 (addC dist d (list.drop p) o).length::nI ii::.d (.ivs list.length (ints list))::nI (list.length)::Y32 (Y16 (Y1 ([])))))) [.arr (ints (addC dist d (list.drop p) o)) 1 0]:=by
 intro j
 induction j with
 |zero=>
  intro p m o len hp hm hlen ho;obtain _|m:=m;omega;obtain rfl:p=list.length:=om;subst hlen
  simp-implicitDefEqProofs (maxSteps:=9^7) (disch:=try exact Dz) only[↓DN,↓kRet,UP,simprocAttr,Ah,nQ,oB,Tryz.f141];simp[addC]
 |succ j ih=>
  intro p m o len hp hm hlen ho;obtain _|m:=m;omega;subst hlen;have hk:p<list.length:=om;have hc:(p:Int)<list.length:=om;have hp0:(0:Int)<=p:=om;obtain⟨r0,r1⟩:=hr _ (lR hk);have hk2:(list.getD p 0).toNat<dist.length:=om;rw[cC hk (d:=0)];simp only[addC]
  by_cases h1:dist.getD (list.getD p 0).toNat 0=d
  ·have kl_i:=@aJx L o (list.getD p 0) om hL
   by_cases h2:list.getD p 0∈o
   ·have ih':=ih (p+1) m o o.length om om rfl om;rw[cs1 p]at ih';rw[if_neg fun h=>h.2 h2];clear ih;rw[decide_eq_true h2]at kl_i
    simp-implicitDefEqProofs (maxSteps:=9^7) (disch:=try exact Dz) only[↓DN,↓kRet,UP,simprocAttr,↓D8,hc,hp0,h1,↓kl_i,r0,r1,↓ih',nQ,oB,Tryz.f141]
   ·have ih':=ih (p+1) m (o++[list.getD p 0]) (o.length+1) om om smp (by rw[Af,Da];omega);rw[cs1 p]at ih';rw[if_pos ⟨h1,h2⟩];clear ih;rw[decide_eq_false h2]at kl_i
    simp-implicitDefEqProofs (maxSteps:=9^7) (disch:=try exact Dz) only[↓DN,↓kRet,UP,simprocAttr,↓D8,hc,hp0,h1,↓kl_i,r0,r1,↓ih',nQ,oB,Tryz.f141]
  ·have ih':=ih (p+1) m o o.length om om rfl om;rw[cs1 p]at ih';rw[if_neg fun h=>h1 h.1];clear ih
   simp-implicitDefEqProofs (maxSteps:=9^7) (disch:=try exact Dz) only[↓DN,↓kRet,UP,simprocAttr,hc,hp0,h1,r0,r1,↓ih',nQ,oB,Tryz.f141]
theorem aEC{dist:List Int}{d:Int}:∀(ms out:List Int),(addC dist d ms out).length<=out.length+ms.length
 | [],out=>by simp[addC]
 |m::ms,out=>by
  unfold addC
  split
  ·have:=aEC (dist:=dist) (d:=d) ms (out++[m]);simp at this|-;omega
  ·have:=aEC (dist:=dist) (d:=d) ms out;simp at this|-;omega
theorem aBI(hn:3<=n)(hL:2^60<=L){tab:List (List (List Int))}{dist at_:List Int}{d:Int}{kk aN:Nat}(ht:D7 tab aN)(hd:dist.length=aN)(htt:aN<=65536)(hat:at_.length<=65536)(har:∀x∈at_,0<=x/\x<aN)(hkk:∀i,i<aN->kk<(tab.getD i []).length/\((tab.getD i []).getD kk []).length<=4096){k:KE R}:∀(j i m:Nat) (o:List Int) (len:Nat) (hp:i+j=at_.length) (hm:j<m) (hlen:len=o.length) (ho:o.length+j*4096<=2147483648),
  aT env (aA env L n) L 0 [] Bz24 (qT 0) (Z4 (Z1 (U4 (U1 (Z2 (Z1 (U32 (U16 (U2 (U1 ([]))))))))))) m (.d (.ivs tab.length (tabD tab))::.d (.ivs dist.length (ints dist))::.d (.ivs at_.length (ints at_))::nI kk::nI d::Y4 (Y1 (.d .nils::.sl 0 0 0 len::nI i::Y32 (Y16 (Y2 (Y1 ([]))))))) [.arr (ints o) 1 0] k
  =k (.exit 0) (.d (.ivs tab.length (tabD tab))::.d (.ivs dist.length (ints dist))::.d (.ivs at_.length (ints at_))::nI kk::nI d::Y4 (Y1 (.d .nils::.sl 0 0 0 (bL tab dist kk d (at_.drop i) o).length::nI (at_.length)::Y32 (Y16 (Y2 (Y1 ([]))))))) [.arr (ints (bL tab dist kk d (at_.drop i) o)) 1 0]:=by
 obtain⟨tl,ht⟩:=ht;intro j
 induction j with
 |zero=>
  intro i m o len hp hm hlen ho;obtain _|m:=m;omega;obtain rfl:i=at_.length:=om;subst hlen
  simp-implicitDefEqProofs (maxSteps:=9^7) (disch:=try exact Dz) only[↓DN,↓kRet,UP,simprocAttr,Ah,HK,DL,Tryz.f141];simp[bL]
 |succ j ih=>
  intro i m o len hp hm hlen ho;obtain _|m:=m;omega;subst hlen;have hk:i<at_.length:=om;have hc:(i:Int)<at_.length:=om;have hi0:(0:Int)<=i:=om;obtain⟨r0,r1⟩:=har _ (lR hk);have hk2:(at_.getD i 0).toNat<tab.length:=om;have hc2:at_.getD i 0<tab.length:=om;obtain⟨q1,q2⟩:=hkk (at_.getD i 0).toNat om;obtain⟨t1,t2⟩:=ht (at_.getD i 0).toNat om;have hc3:(kk:Int)<(tab.getD (at_.getD i 0).toNat []).length:=om;have hkk0:(0:Int)<=kk:=om
  have t3:=t2 ((tab.getD (at_.getD i 0).toNat []).getD kk []) (by
   rw[Aa (l:=tab.getD (at_.getD i 0).toNat []),Ad q1];exact At q1)
  rw[cC hk (d:=0)];simp only[bL];generalize hrow:tab.getD (at_.getD i 0).toNat []=row at *;generalize hli:row.getD kk []=li at *;rw[Nat.succ_mul]at ho;have loop_c:=fun {R n k} hn=> @aB4 R L n hn hL tab dist at_ li d kk i om om (by rw[hd];exact t3.2) k li.length 0 L o o.length om om rfl om;simp only[Ba,Ap]at loop_c;have hal:=aEC (dist:=dist) (d:=d) li o;have ih':=ih (i+1) m (addC dist d li o) _ om om rfl om;rw[cs1 i]at ih';clear ih hkk ht t2 t3;generalize addC dist d li o=w at *
  simp-implicitDefEqProofs (maxSteps:=9^7) (disch:=try exact Dz) only[↓DN,↓kAsg,↓kRet,UP,simprocAttr,TE,LA,hc,hi0,hc2,r0,hc3,hkk0,hrow,hli,↓loop_c,↓ih',HK,DL,Tryz.f141]
theorem xR(hn:4<=n)(hL:2^60<=L){tab:List (List (List Int))}{dist at_:List Int}{d:Int}{kk aN:Nat}(ht:D7 tab aN)(hd:dist.length=aN)(htt:aN<=65536)(hat:at_.length<=65536)(har:∀x∈at_,0<=x/\x<aN)(hkk:∀i,i<aN->kk<(tab.getD i []).length/\((tab.getD i []).getD kk []).length<=4096):
  aA env L n 141 [.d (.ivs tab.length (tabD tab)),.d (.ivs dist.length (ints dist)),.d (.ivs at_.length (ints at_)),nI kk,nI d] []=some (.d (.ivs (bL tab dist kk d at_ []).length (ints (bL tab dist kk d at_ []))),[]):=by
 have loop_c:=fun {R n k} hn=> @aBI R L n hn hL tab dist at_ d kk aN ht hd htt hat har hkk k at_.length 0 L [] 0 om om rfl (by simp;omega);simp only[Ba,Ap,kG]at loop_c;generalize bL tab dist kk d at_ []=w at *;have e4:(ints w).take w.length=ints w:=cK (Ab _);clear hkk har ht;obtain _|n:=n;omega
 simp-implicitDefEqProofs (maxSteps:=9^7) (disch:=try exact Dz) only[↓DN,↓kAsg,↓kRet,UP,simprocAttr,↓loop_c,e4,aKi,aA8,Tryz.f141]
end
theorem EW{l:Int}(h0:0<=l)(h:l<=5):ltr (bU l)=l:=by
 unfold ltr bU;rw[UInt8.toNat_ofNat'];omega
theorem aRn{b:UInt8}:bU (ltr b)=b:=by
 have:=toNat_lt b;unfold ltr bU;have:(97+((b.toNat:Int)-97)).toNat=b.toNat:=om;rw[this];simp
def swp(l:List UInt8)(i j:Nat):List UInt8:=(l.set i (l.getD j 0)).set j (l.getD i 0)
theorem C4(l:List UInt8)(i j:Nat):(swp l i j).length=l.length:=by simp[swp]
theorem aVP{l:List UInt8}{i j:Nat}(hi:i<l.length)(hj:j<l.length){b:UInt8}(h:b∈swp l i j):b∈l:=by
 unfold swp at h;have key:∀ {l':List UInt8} {k:Nat} {v b:UInt8},b∈l'.set k v->b∈l'\/b=v:=fun h=>Dy h
 have at':∀ {k:Nat},k<l.length->l.getD k 0∈l:=fun hk=>by
  rw[Aa,Ad hk];exact At hk
 rcases key h with h|h
 ·rcases key h with h|h
  ·exact h
  ·rw[h];exact at' hj
 ·rw[h];exact at' hi
def revG:Nat->Int->Int->List UInt8->Int×Int×List UInt8
 |0,i,j,l=>(i,j,l)
 |q+1,i,j,l=>if i<j then revG q (i+1) (j-1) (swp l i.toNat j.toNat)else(i,j,l)
theorem aFp:∀(q:Nat) (i j:Int) (l:List UInt8),0<=i->j<l.length->(revG q i j l).2.2.length=l.length/\∀b∈(revG q i j l).2.2,b∈l
 |0,i,j,l,_,_=>⟨rfl,fun b h=>h⟩
 |q+1,i,j,l,h0,h1=>by
  unfold revG
  split
  ·rename_i hlt
   have ih:=aFp q (i+1) (j-1) (swp l i.toNat j.toNat) om (by rw[C4];omega);rw[C4]at ih;exact⟨ih.1,fun b hb=>aVP om om (ih.2 b hb)⟩
  ·exact⟨rfl,fun b h=>h⟩
theorem aVN{call:aZ}{thaw:List Nat}{dst:Option Tmp}{x y:Operand}{g k:Nat}{l:List UInt8}{b:UInt8}(hk:k<l.length):memD env call thaw dst (.store 5 x y) [.arr (bM l) 1 g] [.ptr 0 g k,.d (.int .u8 (b.toNat:Int))]=some (.d .undef,[.arr (bM (l.set k b)) 1 g],{ ids:=[0],ro:=false,wr:=[0]}):=by
 have hst:=aTL (h:=[]) (g:=g) (e:=1) (b:=b) hk;have e1:aF aI [O.arr (bM l) 1 g] (idsL [.ptr 0 g k,.d (.int .u8 (b.toNat:Int))]) []=[0]:=rfl;have e2:pack [O.arr (bM l) 1 g] [0]=[O.arr (bM l) 1 g]:=rfl;have e3:aG (aJ [0]) [.ptr 0 g k,.d (.int .u8 (b.toNat:Int))]=[.ptr 0 g k,.d (.int .u8 (b.toNat:Int))]:=rfl;unfold memD;rw[e1];simp only[box];rw[e2,e3];simp only[evOp,dO,two,hst,Bb]<;>rfl
theorem aTo{R:Type}{L n g:Nat}{k:KE R}:∀(q:Nat) (i j:Int) (m:Nat) (l:List UInt8) (len:Nat) (h0:0<=i) (hj:j<l.length) (hq:j-i<q) (hm:q<m) (hl:len=l.length) (hs:l.length<=2147483648) (hj0:-1<=j),
  aT env (aA env L n) L 1 [] Bz48 (fG 0) Bz67 m (.sl 0 g 0 len::Y1 (nI i::nI j::Y16 (Y8 ([])))) [.arr (bM l) 1 g] k
  =k (.exit 0) (.sl 0 g 0 len::Y1 (nI ((revG q i j l).1)::nI ((revG q i j l).2.1)::Y16 (Y8 ([])))) [.arr (bM (revG q i j l).2.2) 1 g]:=by
 intro q
 induction q with
 |zero=>
  intro i j m l len h0 hj hq hm hl hs hj0;obtain _|m:=m;omega;have hc:¬i<j:=om
  simp-implicitDefEqProofs (maxSteps:=9^7) (disch:=try exact Dz) only[↓DN,↓kRet,UP,simprocAttr,hc,gO,eV,Tryz.f147]<;>rfl
 |succ q ih=>
  intro i j m l len h0 hj hq hm hl hs hj0;obtain _|m:=m;omega
  by_cases hc:i<j
  ·have hi1:i<(len:Int):=om;have hj1:j<(len:Int):=om;have hi2:i.toNat<l.length:=om;have hj2:j.toNat<l.length:=om;have hj3:j.toNat<(l.set i.toNat (l.getD j.toNat 0)).length:=by rw[Bs];exact hj2
   have hj4:(0:Int)<=j:=om;have ih':=ih (i+1) (j-1) m (swp l i.toNat j.toNat) len om (by rw[C4];omega) om om (by rw[C4];exact hl) (by rw[C4];exact hs) om;unfold swp at ih'
   simp-implicitDefEqProofs (maxSteps:=9^7) (disch:=try exact Dz) only[↓DN,↓kRet,UP,simprocAttr,hc,↓aVN,↓ih',gO,eV,Tryz.f147];simp only[revG,hc,if_true,swp]
  ·simp-implicitDefEqProofs (maxSteps:=9^7) (disch:=try exact Dz) only[↓DN,↓kRet,UP,simprocAttr,hc,gO,eV,Tryz.f147];simp only[revG,hc,if_false]
theorem aWZ{L n g:Nat}(hn:1<=n)(l:List UInt8)(hs:l.length<=2147483648)(hL:2^60<=L):aA env L n 147 [.sl 0 g 0 l.length] [.arr (bM l) 1 g]=some (.tup [],[.arr (bM (revG (l.length+1) 0 ((l.length:Int)-1) l).2.2) 1 g]):=by
 have lp:∀ {R:Type} {n:Nat} {k:KE R},aT env (aA env L n) L 1 [] Bz48 (fG 0) Bz67 L (.sl 0 g 0 l.length::Y1 (nI 0::nI ((l.length:Int)-1)::Y16 (Y8 ([])))) [.arr (bM l) 1 g] k
  =k (.exit 0) (.sl 0 g 0 l.length::Y1 (nI ((revG (l.length+1) 0 ((l.length:Int)-1) l).1)::nI ((revG (l.length+1) 0 ((l.length:Int)-1) l).2.1)::Y16 (Y8 ([])))) [.arr (bM (revG (l.length+1) 0 ((l.length:Int)-1) l).2.2) 1 g]:=
  fun {R n k}=>aTo (l.length+1) 0 _ L l l.length (Int.le_refl _) om om om rfl hs om
 have loop_a:=@lp;obtain _|n:=n;omega
 simp-implicitDefEqProofs (maxSteps:=9^7) (disch:=try exact Dz) only[↓DN,↓kAsg,↓kRet,UP,simprocAttr,↓loop_a,E8,rB,Tryz.f147]
theorem aXi{R:Type}{L n id g:Nat}{hq:H}{k:KA R}(hn:1<=n)(l:List UInt8)(hi:hq[id]? =some (.arr (bM l) 1 g))(hs:l.length<=2147483648)(hL:2^60<=L):aX env (aA env L n) hq 147 [.sl id g 0 l.length] k=k (.tup []) (hq.set id (.arr (bM (revG (l.length+1) 0 ((l.length:Int)-1) l).2.2) 1 g)):=
 aAh hi (by simp[idsL,idsA]) iV rfl (by simpa [aG,mapA,aJ]using aWZ hn l hs hL)
end Ev
end Go.Proofs.YtppffbehejpglaaGreatDoor
