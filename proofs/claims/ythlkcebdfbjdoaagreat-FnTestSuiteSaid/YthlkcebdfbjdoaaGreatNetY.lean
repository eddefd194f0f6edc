/-
  Products as the reference searches them, walked: the nodes to which a letter leads.
-/
import Derived.Test.YthlkcebdfbjdoaaGreatNetX
set_option linter.unusedSimpArgs false
set_option linter.unusedVariables false
set_option maxRecDepth 8000
set_option maxHeartbeats 4000000
namespace Go.Proofs.YthlkcebdfbjdoaaGreat
namespace Ev
variable{R:Type}{L n:Nat}
theorem aAi(hn:1<=n){c1 c2 c3 c4 c5 c6:D}{zs ss out ch:List Int}{l z:Int}{i q:Nat}(hi:i<zs.length)(hq:q<out.length)(hz:zs.getD i 0=z)(hzl:zs.length<=4000)(hol:out.length<=4294967290)(hcl:ch.length<=4294967290)(hb:0<=out.getD q 0*z/\out.getD q 0*z<=4294967296)(hcb:∀c∈ch,0<=c/\c<=65536){k:KE R}:∀(j p m:Nat) (o:List Int) (len:Nat) (hp:p+j=ch.length) (hm:j<m) (hlen:len=o.length) (ho:o.length+j<=4294967290),
  aM env (aA env L n) L 0 [] Bz7 (eC 2) (U1 (Z4 (U2 (U1 (Z4 (Z2 (Z1 (U32 (U8 (U4 (U2 (U1 ([]))))))))))))) m (Y1 (.d (.ivs zs.length (ints zs))::.d (.ivs ss.length (ints ss))::nI l::.ptr 0 0 0::Y2 (Y1 (.d .nils::.sl 1 0 0 out.length::nI i::.d (.ivs ch.length (ints ch))::.sl 2 0 0 len::nI q::nI p::Y32 (Y8 (Y4 (Y2 (Y1 ([]))))))))) [.box [.d c1,.d c2,.d c3,.d c4,.d c5,.d c6],.arr (ints out) 1 0,.arr (ints o) 1 0] k
  =k (.exit 4) (Y1 (.d (.ivs zs.length (ints zs))::.d (.ivs ss.length (ints ss))::nI l::.ptr 0 0 0::Y2 (Y1 (.d .nils::.sl 1 0 0 out.length::nI i::.d (.ivs ch.length (ints ch))::.sl 2 0 0 (o++(ch.drop p).map fun c=>out.getD q 0*z+c).length::nI q::nI (ch.length)::Y32 (Y8 (Y4 (Y2 (Y1 ([]))))))))) [.box [.d c1,.d c2,.d c3,.d c4,.d c5,.d c6],.arr (ints out) 1 0,.arr (ints (o++(ch.drop p).map fun c=>out.getD q 0*z+c)) 1 0]:=by
 intro j;have hci:(i:Int)<zs.length:=by omega
 have hcq:(q:Int)<out.length:=by omega
 have hi0:(0:Int)<=i:=by omega
 have hq0:(0:Int)<=q:=by omega
 induction j with
 |zero=>
  intro p m o len hp hm hlen ho;obtain _|m:=m;omega;obtain rfl:p=ch.length:=by omega
  subst hlen;simp -implicitDefEqProofs (maxSteps:=2000000) (disch:=try exact Dz) only[↓DN,↓kRet,UP,simprocAttr,Aj,HC,EB,Tryz.f150];simp
 |succ j ih=>
  intro p m o len hp hm hlen ho;obtain _|m:=m;omega;subst hlen;have hk:p<ch.length:=by omega
  have hc:(p:Int)<ch.length:=by omega
  have hp0:(0:Int)<=p:=by omega
  obtain⟨b1,b2⟩:=hcb _ (lN hk);have ih':=ih (p+1) m (o++[out.getD q 0*z+ch.getD p 0]) (o.length+1) (by omega) (by omega) (by simp) (by rw[Af,Co];omega);rw[cs1 p]at ih';rw[cI hk (d:=0),Ai];simp only[Ao,Av,Am]at ih';clear ih;simp -implicitDefEqProofs (maxSteps:=2000000) (disch:=try exact Dz) only[↓DN,↓kRet,UP,simprocAttr,hci,hcq,hi0,hq0,hc,hp0,hz,↓ih',HC,EB,Tryz.f150]
theorem aG4(z:Int)(ch:List Int):∀out:List Int,(mulN out z ch).length=out.length*ch.length
 | []=>by simp[mulN]
 |o::out=>by
  have ih:=aG4 z ch out;unfold mulN at ih|-;rw[List.flatMap_cons,Af,ih,Ay,Ad,Nat.succ_mul,Nat.add_comm]
theorem aAy(hn:1<=n)(hL:2^60<=L){c1 c2 c3 c4 c5 c6:D}{zs ss out ch:List Int}{l z:Int}{i:Nat}(hi:i<zs.length)(hz:zs.getD i 0=z)(hzl:zs.length<=4000)(hol:out.length<=4294967290)(hcl:ch.length<=4294967290)(hb:∀o∈out,0<=o*z/\o*z<=4294967296)(hcb:∀c∈ch,0<=c/\c<=65536){k:KE R}:∀(j q m:Nat) (o:List Int) (len:Nat) (hp:q+j=out.length) (hm:j<m) (hlen:len=o.length) (ho:o.length+j*ch.length<=4294967290),
  aM env (aA env L n) L 0 [] Bz7 (eC 1) (U1 (Z4 (U2 (U1 (Z4 (Z2 (U32 (U16 ([]))))))))) m (Y1 (.d (.ivs zs.length (ints zs))::.d (.ivs ss.length (ints ss))::nI l::.ptr 0 0 0::Y2 (Y1 (.d .nils::.sl 1 0 0 out.length::nI i::.d (.ivs ch.length (ints ch))::.sl 2 0 0 len::nI q::Y32 (Y16 ([])))))) [.box [.d c1,.d c2,.d c3,.d c4,.d c5,.d c6],.arr (ints out) 1 0,.arr (ints o) 1 0] k
  =k (.exit 2) (Y1 (.d (.ivs zs.length (ints zs))::.d (.ivs ss.length (ints ss))::nI l::.ptr 0 0 0::Y2 (Y1 (.d .nils::.sl 1 0 0 out.length::nI i::.d (.ivs ch.length (ints ch))::.sl 2 0 0 (o++mulN (out.drop q) z ch).length::nI (out.length)::Y32 (Y16 ([])))))) [.box [.d c1,.d c2,.d c3,.d c4,.d c5,.d c6],.arr (ints out) 1 0,.arr (ints (o++mulN (out.drop q) z ch)) 1 0]:=by
 intro j
 induction j with
 |zero=>
  intro q m o len hp hm hlen ho;obtain _|m:=m;omega;obtain rfl:q=out.length:=by omega
  subst hlen;simp -implicitDefEqProofs (maxSteps:=2000000) (disch:=try exact Dz) only[↓DN,↓kRet,UP,simprocAttr,Aj,IE,D1,Tryz.f150];simp[mulN]
 |succ j ih=>
  intro q m o len hp hm hlen ho;obtain _|m:=m;omega;subst hlen;have hk:q<out.length:=by omega
  have hc:(q:Int)<out.length:=by omega
  have hq0:(0:Int)<=q:=by omega
  have hb':=hb _ (lN hk);rw[Nat.succ_mul]at ho;have loop_c:=fun {R n k} hn=> @aAi R L n hn c1 c2 c3 c4 c5 c6 zs ss out ch l z i q hi hk hz hzl hol hcl hb' hcb k ch.length 0 L o o.length (by omega) (by omega) rfl (by omega);simp only[Bc,Aq]at loop_c;have ih':=ih (q+1) m (o++ch.map fun c=>out.getD q 0*z+c) _ (by omega) (by omega) rfl (by rw[Af,Ay];omega);rw[cs1 q]at ih'
  have e:mulN (out.drop q) z ch=(ch.map fun c=>out.getD q 0*z+c)++mulN (out.drop (q+1)) z ch:=by
   rw[cI hk (d:=0)];rfl
  rw[e,<-Ao];clear ih e;generalize(ch.map fun c=>out.getD q 0*z+c)=w at *;simp only[Af]at ih' loop_c|-;simp -implicitDefEqProofs (maxSteps:=2000000) (disch:=try exact Dz) only[↓DN,↓kAsg,↓kRet,UP,simprocAttr,hc,↓loop_c,↓ih',IE,D1,Tryz.f150]
def nexG(ch:Nat->List Int)(zs:List Int):Nat->Nat->List Int->List Int
 |0,_,out=>out
 |j+1,i,out=>nexG ch zs j (i+1) (mulN out (zs.getD i 0) (ch i))
theorem aQt{z b b2:Int}{ch out:List Int}(hz:0<=z)(hb:b*z+(z-1)<=b2)(ho:∀o∈out,0<=o/\o<=b)(hc:∀c∈ch,0<=c/\c<z):∀x∈mulN out z ch,0<=x/\x<=b2:=by
 intro x hx;obtain⟨o,h1,h2⟩:=Di.1 hx;obtain⟨c,h3,rfl⟩:=Bq.1 h2;obtain⟨o0,o1⟩:=ho o h1;obtain⟨c0,c1⟩:=hc c h3;have m0:0<=o*z:=Int.mul_nonneg o0 hz;have m1:o*z<=b*z:=Dx o1 hz;omega
theorem aAA(hn:6<=n)(hL:2^60<=L){c1 c2 c3 c4 c5 c6:D}{zs ss:List Int}{l:Int}{ch:Nat->List Int}{bnd:Nat->Int}(hzs:zs.length=ss.length)(hsl:ss.length<=6)
  (kc_c:∀(i:Nat),i<ss.length->∀ {R:Type} {n:Nat} {hq:H} {k:KA R},5<=n->a6 env (aA env L n) hq 157 [.agg [.d c1,.d c2,.d c3,.d c4,.d c5,.d c6],nI i,nI (ss.getD i 0),nI l] k=k (.d (.ivs (ch i).length (ints (ch i)))) hq)
  (hz:∀i,i<ss.length->0<zs.getD i 0/\zs.getD i 0<=65536) (hcl:∀i,i<ss.length->(ch i).length<=16) (hcb:∀i,i<ss.length->∀c∈ch i,0<=c/\c<zs.getD i 0) (hbn:∀i,i<ss.length->0<=bnd i/\bnd i*zs.getD i 0<=4294967296/\bnd i*zs.getD i 0+(zs.getD i 0-1)<=bnd (i+1)) {k:KE R}:∀(j i m:Nat) (out:List Int) (len:Nat) (hp:i+j=ss.length) (hm:j<m) (hlen:len=out.length) (ho:out.length<=16^i) (hob:∀o∈out,0<=o/\o<=bnd i),
  aM env (aA env L n) L 0 [] Bz7 (eC 0) (U1 (Z4 (U2 (U1 (Z2 (Z1 (U32 (U16 (U2 (U1 ([]))))))))))) m (Y1 (.d (.ivs zs.length (ints zs))::.d (.ivs ss.length (ints ss))::nI l::.ptr 0 0 0::Y2 (Y1 (.d .nils::.sl 1 0 0 len::nI i::Y32 (Y16 (Y2 (Y1 ([])))))))) [.box [.d c1,.d c2,.d c3,.d c4,.d c5,.d c6],.arr (ints out) 1 0] k
  =k (.exit 0) (Y1 (.d (.ivs zs.length (ints zs))::.d (.ivs ss.length (ints ss))::nI l::.ptr 0 0 0::Y2 (Y1 (.d .nils::.sl 1 0 0 (nexG ch zs j i out).length::nI (ss.length)::Y32 (Y16 (Y2 (Y1 ([])))))))) [.box [.d c1,.d c2,.d c3,.d c4,.d c5,.d c6],.arr (ints (nexG ch zs j i out)) 1 0]:=by
 intro j
 induction j with
 |zero=>
  intro i m out len hp hm hlen ho hob;obtain _|m:=m;omega;obtain rfl:i=ss.length:=by omega
  subst hlen;simp -implicitDefEqProofs (maxSteps:=2000000) (disch:=try exact Dz) only[↓DN,↓kRet,UP,simprocAttr,Aj,HP,D6,Tryz.f150];rfl
 |succ j ih=>
  intro i m out len hp hm hlen ho hob;obtain _|m:=m;omega;subst hlen;have hk:i<ss.length:=by omega
  have hkz:i<zs.length:=by omega
  have hc:(i:Int)<ss.length:=by omega
  have hi0:(0:Int)<=i:=by omega
  obtain⟨z1,z2⟩:=hz i hk;obtain⟨n0,n1,n2⟩:=hbn i hk;have hch:=hcl i hk;have hcb':=hcb i hk;have p16:(16:Nat)^i<=16^5:=Nat.pow_le_pow_right (by decide) (by omega);have hol:out.length<=1048576:=Bv ho (Bv p16 (by decide));have kc_d:=fun {R:Type} {n:Nat} {hq:H} {k:KA R} (hn:5<=n)=>kc_c i hk (R:=R) (n:=n) (hq:=hq) (k:=k) hn;have hmul:out.length*(ch i).length<=16777216:=Bv (Nat.mul_le_mul hol hch) (by decide)
  have loop_c:=fun {R n k} hn=> @aAy R L n hn hL c1 c2 c3 c4 c5 c6 zs ss out (ch i) l (zs.getD i 0) i hkz rfl (by omega) (by omega) (by omega) (fun o h=>by
   obtain⟨o0,o1⟩:=hob o h;exact⟨Int.mul_nonneg o0 (by omega),Int.le_trans (Dx o1 (by omega)) n1⟩) (fun c h=>by have:=hcb' c h;omega) k out.length 0 L [] 0 (by omega) (by omega) rfl (by simp;omega)
  simp only[Bc,Aq,Am,oK]at loop_c;have hb2:=aQt (b2:=bnd (i+1)) (by omega) n2 hob hcb'
  have hl2:(mulN out (zs.getD i 0) (ch i)).length<=16^(i+1):=by
   rw[aG4,Nat.pow_succ];exact Nat.mul_le_mul ho hch
  have ih':=ih (i+1) m (mulN out (zs.getD i 0) (ch i)) _ (by omega) (by omega) rfl hl2 hb2;rw[cs1 i]at ih';simp only[nexG];clear ih hb2 hl2 hmul hbn hcb hcl hz kc_c n0 n1 n2 hcb';generalize mulN out (zs.getD i 0) (ch i)=w at *;generalize ch i=chi at *;simp -implicitDefEqProofs (maxSteps:=2000000) (disch:=try exact Dz) only[↓DN,↓kAsg,↓kRet,UP,simprocAttr,hc,hi0,↓kc_d,↓loop_c,↓ih',HP,D6,Tryz.f150]
theorem VU(hn:7<=n)(hL:2^60<=L){n1 n2 n3:Nat}{d1 d2 d3:List D}{al kd go:Int}{zs ss:List Int}{l:Int}{ch:Nat->List Int}{bnd:Nat->Int}(hzs:zs.length=ss.length)(hsl:ss.length<=6)
  (kc_c:∀(i:Nat),i<ss.length->∀ {R:Type} {n:Nat} {hq:H} {k:KA R},5<=n->a6 env (aA env L n) hq 157 [.agg [.d (.ivs n1 d1),.d (.ivs n2 d2),.d (.ivs n3 d3),nI al,nI kd,nI go],nI i,nI (ss.getD i 0),nI l] k=k (.d (.ivs (ch i).length (ints (ch i)))) hq)
  (hz:∀i,i<ss.length->0<zs.getD i 0/\zs.getD i 0<=65536) (hcl:∀i,i<ss.length->(ch i).length<=16) (hcb:∀i,i<ss.length->∀c∈ch i,0<=c/\c<zs.getD i 0) (hb0:0<=bnd 0) (hbn:∀i,i<ss.length->0<=bnd i/\bnd i*zs.getD i 0<=4294967296/\bnd i*zs.getD i 0+(zs.getD i 0-1)<=bnd (i+1)):
  aA env L n 150 [.agg [.d (.ivs n1 d1),.d (.ivs n2 d2),.d (.ivs n3 d3),nI al,nI kd,nI go],.d (.ivs zs.length (ints zs)),.d (.ivs ss.length (ints ss)),nI l] []=some (.d (.ivs (nexG ch zs ss.length 0 [0]).length (ints (nexG ch zs ss.length 0 [0]))),[]):=by
 have loop_c:=fun {R n k} hn=> @aAA R L n hn hL (.ivs n1 d1) (.ivs n2 d2) (.ivs n3 d3) (.int .i64 al) (.int .i64 kd) (.int .i64 go) zs ss l ch bnd hzs hsl kc_c hz hcl hcb hbn k ss.length 0 L [0] 1 (by omega) (by omega) rfl (by simp) (fun o h=>by simp at h;subst h;exact⟨Int.le_refl _,hb0⟩);simp only[Aq]at loop_c;generalize nexG ch zs ss.length 0 [0]=w at *;have e:ints [0]=[.int .i64 0]:=rfl;rw[e]at loop_c;have e4:(ints w).take w.length=ints w:=eS (Ab _);clear hz hcl hcb hbn kc_c;obtain _|n:=n;omega;simp -implicitDefEqProofs (maxSteps:=2000000) (disch:=try exact Dz) only[↓DN,↓kAsg,↓kRet,UP,simprocAttr,↓loop_c,e4,aHt,YI,Tryz.f150]
end Ev
end Go.Proofs.YthlkcebdfbjdoaaGreat
