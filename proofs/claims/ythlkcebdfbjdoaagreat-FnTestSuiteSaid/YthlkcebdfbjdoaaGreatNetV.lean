/-
  Products as the reference searches them, walked: goals, the search of a product of automata.
-/
import Derived.Test.YthlkcebdfbjdoaaGreatNetU
import Derived.Test.YthlkcebdfbjdoaaGreatRead
import Derived.Test.YthlkcebdfbjdoaaGreatDrawR
import Derived.Test.YthlkcebdfbjdoaaGreatDistG
set_option linter.unusedSimpArgs false
set_option linter.unusedVariables false
set_option maxRecDepth 8000
set_option maxHeartbeats 4000000
namespace Go.Proofs.YthlkcebdfbjdoaaGreat
namespace Ev
variable{R:Type}{L n:Nat}
structure OkN(N:Net)(states:List Int)(i:Nat):Prop where
 hi:i<N.us.length
 hs:N.ps.length+i<states.length
 ha:(N.us.getD i default).ac.length<=4294967290
 q0:0<=states.getD (N.ps.length+i) 0
 q1:states.getD (N.ps.length+i) 0<(N.us.getD i default).ac.length
theorem aIt(hn:2<=n)(N:Net)(states:List Int)(mvs:List (List Int))(hk:N.kind=0\/N.kind=1\/N.kind=2\/N.kind=3)(h1:N.ps.length<=1000)(h2:N.us.length<=1000)(hs2:states.length<=4000)(ho:OkN N states 0)(ho2:N.kind=1\/N.kind=2->OkN N states 1)(hL:2^60<=L):aA env L n 131 [.agg [.d (.ivs N.ps.length (sysD N.ps)),.d (.ivs N.us.length (fS N.us)),.d (.ivs N.start.length (ints N.start)),nI N.ls,nI N.kind,nI N.goal],.d (.ivs states.length (ints states)),.d (.ivs mvs.length (aN mvs))] []=some (.d (.bool (NP N states mvs)),[]):=by
 have kc_a:=fun {R n hq k} hn=> @aEv R L n hq k hn N states 0 ho.hi h1 h2 ho.hs hs2 ho.ha ho.q0 ho.q1 hL;simp only[Aq]at kc_a;have kc_b:=fun(hx:OkN N states 1) {R:Type} {n:Nat} {hq:H} {k:KA R} (hn:1<=n)=> @aEv R L n hq k hn N states 1 hx.hi h1 h2 hx.hs hs2 hx.ha hx.q0 hx.q1 hL;simp only[show((1:Nat):Int)=1 from rfl]at kc_b;unfold NP
 rcases hk with hk|hk|hk|hk
 ·rw[hk]at kc_a|-;clear kc_b ho2;generalize okN N states 0=b0 at *;obtain _|n:=n;omega;simp -implicitDefEqProofs (maxSteps:=2000000) (disch:=try exact Dz) only[↓DN,↓kAsg,↓kRet,UP,simprocAttr,↓kc_a,nD,mR,Tryz.f131]
 ·have kc_b:=fun {R:Type} {n:Nat} {hq:H} {k:KA R} (hn:1<=n)=>kc_b (ho2 (.inl hk)) (R:=R) (n:=n) (hq:=hq) (k:=k) hn;rw[hk]at kc_a kc_b|-;generalize okN N states 0=b0 at *;generalize okN N states 1=b1 at *;obtain _|n:=n;omega;simp -implicitDefEqProofs (maxSteps:=2000000) (disch:=try exact Dz) only[↓DN,↓kAsg,↓kRet,UP,simprocAttr,↓kc_a,↓kc_b,nD,mR,Tryz.f131]
  all_goals (cases b0<;>cases b1<;>rfl)
 ·have kc_b:=fun {R:Type} {n:Nat} {hq:H} {k:KA R} (hn:1<=n)=>kc_b (ho2 (.inr hk)) (R:=R) (n:=n) (hq:=hq) (k:=k) hn;rw[hk]at kc_a kc_b|-;generalize okN N states 0=b0 at *;generalize okN N states 1=b1 at *
  cases b0 with
  |true=>
   obtain _|n:=n;omega;simp -implicitDefEqProofs (maxSteps:=2000000) (disch:=try exact Dz) only[↓DN,↓kAsg,↓kRet,UP,simprocAttr,↓kc_a,↓kc_b,nD,mR,Tryz.f131]
  |false=>
   obtain _|n:=n;omega;simp -implicitDefEqProofs (maxSteps:=2000000) (disch:=try exact Dz) only[↓DN,↓kAsg,↓kRet,UP,simprocAttr,↓kc_a,nD,mR,Tryz.f131]
 ·rw[hk]at kc_a|-;clear kc_b ho2;generalize okN N states 0=b0 at *;obtain _|n:=n;omega;simp -implicitDefEqProofs (maxSteps:=2000000) (disch:=try exact Dz) only[↓DN,↓kAsg,↓kRet,UP,simprocAttr,↓kc_a,nD,mR,Tryz.f131]
theorem aGk(hn:1<=n)(N:Net)(states:List Int)(mvs:List (List Int))(hk:N.kind=5)(h1:N.ps.length<=1000)(hs:N.ps.length<states.length)(hs2:states.length<=4000):aA env L n 131 [.agg [.d (.ivs N.ps.length (sysD N.ps)),.d (.ivs N.us.length (fS N.us)),.d (.ivs N.start.length (ints N.start)),nI N.ls,nI N.kind,nI N.goal],.d (.ivs states.length (ints states)),.d (.ivs mvs.length (aN mvs))] []=some (.d (.bool (NP N states mvs)),[]):=by
 unfold NP;rw[hk];have hc:(N.ps.length:Int)<states.length:=by omega
 have hc0:(0:Int)<=N.ps.length:=by omega
 obtain _|n:=n;omega;simp -implicitDefEqProofs (maxSteps:=2000000) (disch:=try exact Dz) only[↓DN,↓kAsg,↓kRet,UP,simprocAttr,hc,hc0,nD,mR,Tryz.f131]
theorem tB{R:Type}{E:Env}{call:aZ}{h blk blk2 h2:H}{f:FuncId}{args fs:List A}{r:A}{k:KA R}{ids ord:List Nat}(hm:(E.hint f).mode=2)(hids:idsL args=ids)(hre:aD aG h ids []=ord)(hpk:pack h ord=blk)(hf:fB blk (aE (aH ord) args)=some (fs,blk2))(hcl:closed h ord ids=true)(hc:call f fs []=some (r,[]))(hr:idsA r=[])(hl:ord.length<=blk2.length)(hpb:bG (back ord h.length blk2.length) h ord blk2=h2):
  a6 E call h f args k=k r h2:=by
 unfold a6;rw[hids,hre,hpk]
 have hc:b8 call E.hint blk f (aE (aH ord) args)=some (r,blk2):=by
  unfold b8;rw[hm];simp only[hf,hc]
 rw[hc];simp only[hl,hcl,and_self,if_true,rZ r hr,hpb]
theorem ZV(hn:1<=n){c2 c3 c5 c6:D}{al:Int}{zs:List Int}(hzl:zs.length<=1000)(hpr:∀i,i<=zs.length->0<=(zs.take i).foldl (·*·) 1/\(zs.take i).foldl (·*·) 1<=16777216){k:KE R}:∀(j i m:Nat) (hi:i+j=zs.length) (hm:j<m),
  aM env (aA env L n) L 0 [] Bz0 (cF 0) (U1 (Z4 (Z2 (U32 (U32 (U32 (U4 ([])))))))) m (Y1 (.ptr 0 0 0::.d (.str [])::.d (.bool false)::.d (.ivs zs.length (ints zs))::nI ((zs.take i).foldl (·*·) 1)::nI i::Y32 (Y32 (Y32 (Y4 ([])))))) [.box [.sl 1 0 0 0,.d c2,.d c3,nI al,.d c5,.d c6],.ice [] 0 0] k
  =k (.exit 0) (Y1 (.ptr 0 0 0::.d (.str [])::.d (.bool false)::.d (.ivs zs.length (ints zs))::nI (zs.foldl (·*·) 1)::nI (zs.length)::Y32 (Y32 (Y32 (Y4 ([])))))) [.box [.sl 1 0 0 0,.d c2,.d c3,nI al,.d c5,.d c6],.ice [] 0 0]:=by
 intro j
 induction j with
 |zero=>
  intro i m hi hm;obtain _|m:=m;omega;obtain rfl:i=zs.length:=by omega
  rw[Cr];simp -implicitDefEqProofs (maxSteps:=2000000) (disch:=try exact Dz) only[↓DN,↓kRet,UP,simprocAttr,Aj,HW,DU,Tryz.f105]
 |succ j ih=>
  intro i m hi hm;obtain _|m:=m;omega;have hk:i<zs.length:=by omega
  have hc:(i:Int)<zs.length:=by omega
  have hi0:(0:Int)<=i:=by omega
  have ih':=ih (i+1) m (by omega) (by omega);obtain⟨p0,p1⟩:=hpr (i+1) (by omega)
  have e:(zs.take (i+1)).foldl (·*·) 1=(zs.take i).foldl (·*·) 1*zs.getD i 0:=by
   rw[List.take_add_one,Ae hk,List.foldl_append,Aa,Ae hk];rfl
  rw[e]at ih' p0 p1;rw[cs1 i]at ih';clear ih e;generalize(zs.take i).foldl (·*·) 1=t at *;simp -implicitDefEqProofs (maxSteps:=2000000) (disch:=try exact Dz) only[↓DN,↓kRet,UP,simprocAttr,hc,hi0,↓ih',HW,DU,Tryz.f105]
def d8(gl:Int->Bool)(v:Nat):Int:=if gl v=true then 0 else -1
theorem aAn(hn:4<=n)(hL:2^60<=L){c2 c3 c5 c6:D}{al:Int}{zs:List Int}{tab:List (List (List Int))}{tt i6:Nat}{gl:Int->Bool}(hzl:zs.length<=1000)(htt:tt<=16777216)(hzp:∀z∈zs,0<z/\z<=65536)(htl:tab.length=tt)
  (kl_x:∀(v:Nat),v<tt->∀ {R:Type} {n:Nat} {k:A->Option R},2<=n->qK (aA env L n) 131 [.agg [.d (.ivs 0 []),.d c2,.d c3,nI al,.d c5,.d c6],.d (.ivs zs.length (ints (decN zs v))),.d (.ivs (tab.getD v []).length (aN (tab.getD v [])))] k=k (.d (.bool (gl v))))
  {k:KE R}:∀(j v m:Nat) (o:List Int) (len:Nat) (hp:v+j=tt) (hm:j<m) (hlen:len=tt) (ho:o.length=tt),
  aM env (aA env L n) L 0 [] Bz0 (cF 1) (U1 (Z8 (Z1 (U32 (U32 (U32 (U1 ([])))))))) m (Y1 (.ptr 0 0 0::.d (.str [])::.d (.bool false)::.d (.ivs zs.length (ints zs))::nI tt::nI i6::.d (.ivs tab.length (tabD tab))::.sl 1 0 0 len::nI v::Y32 (Y32 (Y32 (Y1 ([])))))) [.box [.sl 2 0 0 0,.d c2,.d c3,nI al,.d c5,.d c6],.arr (ints o) 1 0,.ice [] 0 0] k
  =k (.exit 2) (Y1 (.ptr 0 0 0::.d (.str [])::.d (.bool false)::.d (.ivs zs.length (ints zs))::nI tt::nI i6::.d (.ivs tab.length (tabD tab))::.sl 1 0 0 len::nI tt::Y32 (Y32 (Y32 (Y1 ([])))))) [.box [.sl 2 0 0 0,.d c2,.d c3,nI al,.d c5,.d c6],.arr (ints (o.take v++(List.range' v j).map (d8 gl))) 1 0,.ice [] 0 0]:=by
 intro j
 induction j with
 |zero=>
  intro v m o len hp hm hlen ho;obtain _|m:=m;omega;obtain rfl:v=tt:=by omega
  subst hlen;simp -implicitDefEqProofs (maxSteps:=2000000) (disch:=try exact Dz) only[↓DN,↓kRet,UP,simprocAttr,Aj,vT,vC,Tryz.f105];have e1:o.take len=o:=Bz (by omega);simp[e1]
 |succ j ih=>
  intro v m o len hp hm hlen ho;obtain _|m:=m;omega;subst hlen;have hk:v<o.length:=by omega
  have hkt:v<tab.length:=by omega
  have hc:(v:Int)<len:=by omega
  have hv0:(0:Int)<=v:=by omega
  have hdl:=ZQ zs v;have kc_d:=@Q6 L zs v hzp hzl hv0 (by omega) hL;have kl_y:=fun {R:Type} {n:Nat} {k:A->Option R} (hn:2<=n)=>kl_x v (by omega) (R:=R) (n:=n) (k:=k) hn;have kv_f:=fun {R:Type} {n:Nat} {hq:H} {args:List A} {k:KA R}=>dU (E:=env) (call:=aA env L n) (h:=hq) (k:=k) (args:=args) AN;rw[Do,Ai];generalize decN zs v=ss at *
  by_cases hg:gl v=true
  ·have ih':=ih (v+1) m ((o.set v (-1)).set v 0) len (by omega) (by omega) rfl (by simpa using ho);rw[cs1 v,aKV (by simpa using hk),List.take_set_of_le (Ab v)]at ih';rw[show d8 gl v=0 by unfold d8;rw[if_pos hg]];rw[hg]at kl_y;clear ih kl_x;simp -implicitDefEqProofs (maxSteps:=2000000) (disch:=try exact Dz) only[↓DN,↓kRet,UP,simprocAttr,TE,hc,hv0,↓kc_d,↓kv_f,↓kl_y,↓aKo,↓ih',vT,vC,Tryz.f105]
  ·have ih':=ih (v+1) m (o.set v (-1)) len (by omega) (by omega) rfl (by simpa using ho);rw[cs1 v,aKV (by simpa using hk)]at ih';rw[show d8 gl v= -1 by unfold d8;rw[if_neg hg]];rw[Bool.not_eq_true]at hg;rw[hg]at kl_y;clear ih kl_x;simp -implicitDefEqProofs (maxSteps:=2000000) (disch:=try exact Dz) only[↓DN,↓kRet,UP,simprocAttr,TE,hc,hv0,↓kc_d,↓kv_f,↓kl_y,↓aKo,↓ih',vT,vC,Tryz.f105]
theorem XD(hn:5<=n)(hL:2^60<=L){c2 c3 c5 c6:D}{al d:Int}{zs ls dist at_:List Int}{o:List UInt8}{tab:List (List (List Int))}{aO i6 e:Nat}{i9:Int}(ht:BQ tab aO)(hd:dist.length=aO)(htt:aO<=16777216)(hat:at_.length<=16777216)(har:∀x∈at_,0<=x/\x<aO)(hkk:∀kk,kk<ls.length->∀i,i<aO->kk<(tab.getD i []).length/\((tab.getD i []).getD kk []).length<=64)(hd0:0<d)(hd1:d<=4294967296)(hls:ls.length<=6)(he:e<ls.length)(he1:bJ tab dist e (d-1) at_ []≠[]){k:KE R}:∀(j kk m:Nat) (hp:kk+j=e) (hm:j<m) (hz:∀f,kk<=f->f<e->bJ tab dist f (d-1) at_ []=[]),
  aM env (aA env L n) L 0 [] Bz0 (cF 3) Bz27 m (Y1 (.ptr 0 0 0::.d (.str [])::.d (.bool false)::.d (.ivs zs.length (ints zs))::nI aO::nI i6::.d (.ivs tab.length (tabD tab))::.sl 1 0 0 dist.length::nI i9::.d (.ivs at_.length (ints at_))::.d (.ivs ls.length (ints ls))::.d (.str o)::nI d::nI kk::.d (.ivs (bJ tab dist kk (d-1) at_ []).length (ints (bJ tab dist kk (d-1) at_ [])))::Y32 (Y32 (Y16 (Y8 (Y2 (Y1 ([])))))))) [.box [.sl 2 0 0 0,.d c2,.d c3,nI al,.d c5,.d c6],.ice (ints dist) 1 0,.ice [] 0 0] k
  =k (.exit 6) (Y1 (.ptr 0 0 0::.d (.str [])::.d (.bool false)::.d (.ivs zs.length (ints zs))::nI aO::nI i6::.d (.ivs tab.length (tabD tab))::.sl 1 0 0 dist.length::nI i9::.d (.ivs at_.length (ints at_))::.d (.ivs ls.length (ints ls))::.d (.str o)::nI d::nI e::.d (.ivs (bJ tab dist e (d-1) at_ []).length (ints (bJ tab dist e (d-1) at_ [])))::Y32 (Y32 (Y16 (Y8 (Y2 (Y1 ([])))))))) [.box [.sl 2 0 0 0,.d c2,.d c3,nI al,.d c5,.d c6],.ice (ints dist) 1 0,.ice [] 0 0]:=by
 intro j
 induction j with
 |zero=>
  intro kk m hp hm hz;obtain _|m:=m;omega;obtain rfl:kk=e:=by omega
  generalize bJ tab dist kk (d-1) at_ []=w at *
  have hw:¬((w.length:Int)=0):=by
   have:=Dv.2 he1;omega
  simp -implicitDefEqProofs (maxSteps:=2000000) (disch:=try exact Dz) only[↓DN,↓kRet,UP,simprocAttr,hw,pB,pN,Tryz.f105]
 |succ j ih=>
  intro kk m hp hm hz;obtain _|m:=m;omega;have h0:=hz kk (Ab _) (by omega);have ih':=ih (kk+1) m (by omega) (by omega) (fun f h1 h2=>hz f (by omega) h2);have kc_c:=fun {R:Type} {n:Nat} {k:KA R} (hn:4<=n)=> @tB R env (aA env L n) [.box [.sl 2 0 0 0,.d c2,.d c3,nI al,.d c5,.d c6],.ice (ints dist) 1 0,.ice [] 0 0] [.ice (ints dist) 1 0] [.ice (ints dist) 1 0] [.box [.sl 2 0 0 0,.d c2,.d c3,nI al,.d c5,.d c6],.ice (ints dist) 1 0,.ice [] 0 0] 135 [.d (.ivs tab.length (tabD tab)),.sl 1 0 0 dist.length,.d (.ivs at_.length (ints at_)),nI ((kk+1:Nat):Int),nI (d-1)] [.d (.ivs tab.length (tabD tab)),.d (.ivs dist.length (ints dist)),.d (.ivs at_.length (ints at_)),nI ((kk+1:Nat):Int),nI (d-1)] _ k [1] [1] j9 rfl kr rfl (by simp[fB,frzA,frz,frz0,aE,mapA,aH,deep,hJ,eS]) rfl (@vG L n hn hL tab dist at_ (d-1) (kk+1) aO ht hd htt hat har (hkk (kk+1) (by omega))) rfl (by simp) rfl;rw[cs1 kk]at ih' kc_c;rw[h0];clear ih hkk har ht hz;generalize bJ tab dist (kk+1) (d-1) at_ []=w at *;simp -implicitDefEqProofs (maxSteps:=2000000) (disch:=try exact Dz) only[↓DN,↓kRet,UP,simprocAttr,↓kc_c,↓ih',pB,pN,Tryz.f105]
theorem XF(hn:5<=n)(hL:2^60<=L){c2 c3 c5 c6:D}{al d:Int}{zs ls dist at_:List Int}{o:List UInt8}{tab:List (List (List Int))}{aO i6 e:Nat}{i9:Int}(ht:BQ tab aO)(hd:dist.length=aO)(htt:aO<=16777216)(hat:at_.length<=16777216)(har:∀x∈at_,0<=x/\x<aO)(hkk:∀kk,kk<ls.length->∀i,i<aO->kk<(tab.getD i []).length/\((tab.getD i []).getD kk []).length<=64)(hd0:0<d)(hd1:d<=4294967296)(hls:ls.length<=6)(he:e<ls.length)(he1:bJ tab dist e (d-1) at_ []≠[]){k:KE R}:∀(j kk m:Nat) (hp:kk+j=e) (hm:j<m) (hz:∀f,kk<=f->f<e->bJ tab dist f (d-1) at_ []=[]),
  aM env (aA env L n) L 0 [] Bz0 (cF 3) Bz27 m (Y1 (.ptr 0 0 0::.d (.str [])::.d (.bool false)::.d (.ivs zs.length (ints zs))::nI aO::nI i6::.d (.ivs tab.length (tabD tab))::.sl 1 0 0 dist.length::nI i9::.sl 2 0 0 at_.length::.d (.ivs ls.length (ints ls))::.d (.str o)::nI d::nI kk::.d (.ivs (bJ tab dist kk (d-1) at_ []).length (ints (bJ tab dist kk (d-1) at_ [])))::Y32 (Y32 (Y16 (Y8 (Y2 (Y1 ([])))))))) [.box [.sl 3 0 0 0,.d c2,.d c3,nI al,.d c5,.d c6],.ice (ints dist) 1 0,.ice (ints at_) 1 0,.ice [] 0 0] k
  =k (.exit 6) (Y1 (.ptr 0 0 0::.d (.str [])::.d (.bool false)::.d (.ivs zs.length (ints zs))::nI aO::nI i6::.d (.ivs tab.length (tabD tab))::.sl 1 0 0 dist.length::nI i9::.sl 2 0 0 at_.length::.d (.ivs ls.length (ints ls))::.d (.str o)::nI d::nI e::.d (.ivs (bJ tab dist e (d-1) at_ []).length (ints (bJ tab dist e (d-1) at_ [])))::Y32 (Y32 (Y16 (Y8 (Y2 (Y1 ([])))))))) [.box [.sl 3 0 0 0,.d c2,.d c3,nI al,.d c5,.d c6],.ice (ints dist) 1 0,.ice (ints at_) 1 0,.ice [] 0 0]:=by
 intro j
 induction j with
 |zero=>
  intro kk m hp hm hz;obtain _|m:=m;omega;obtain rfl:kk=e:=by omega
  generalize bJ tab dist kk (d-1) at_ []=w at *
  have hw:¬((w.length:Int)=0):=by
   have:=Dv.2 he1;omega
  simp -implicitDefEqProofs (maxSteps:=2000000) (disch:=try exact Dz) only[↓DN,↓kRet,UP,simprocAttr,hw,pB,pN,Tryz.f105]
 |succ j ih=>
  intro kk m hp hm hz;obtain _|m:=m;omega;have h0:=hz kk (Ab _) (by omega);have ih':=ih (kk+1) m (by omega) (by omega) (fun f h1 h2=>hz f (by omega) h2);have kc_c:=fun {R:Type} {n:Nat} {k:KA R} (hn:4<=n)=> @tB R env (aA env L n) [.box [.sl 3 0 0 0,.d c2,.d c3,nI al,.d c5,.d c6],.ice (ints dist) 1 0,.ice (ints at_) 1 0,.ice [] 0 0] [.ice (ints dist) 1 0,.ice (ints at_) 1 0] [.ice (ints dist) 1 0,.ice (ints at_) 1 0] [.box [.sl 3 0 0 0,.d c2,.d c3,nI al,.d c5,.d c6],.ice (ints dist) 1 0,.ice (ints at_) 1 0,.ice [] 0 0] 135 [.d (.ivs tab.length (tabD tab)),.sl 1 0 0 dist.length,(.sl 2 0 0 at_.length),nI ((kk+1:Nat):Int),nI (d-1)] [.d (.ivs tab.length (tabD tab)),.d (.ivs dist.length (ints dist)),.d (.ivs at_.length (ints at_)),nI ((kk+1:Nat):Int),nI (d-1)] _ k [1,2] [1,2] j9 rfl kr rfl (by simp[fB,frzA,frz,frz0,aE,mapA,aH,deep,hJ,eS]) rfl (@vG L n hn hL tab dist at_ (d-1) (kk+1) aO ht hd htt hat har (hkk (kk+1) (by omega))) rfl (by simp) rfl;rw[cs1 kk]at ih' kc_c;rw[h0];clear ih hkk har ht hz;generalize bJ tab dist (kk+1) (d-1) at_ []=w at *;simp -implicitDefEqProofs (maxSteps:=2000000) (disch:=try exact Dz) only[↓DN,↓kRet,UP,simprocAttr,↓kc_c,↓ih',pB,pN,Tryz.f105]
end Ev
end Go.Proofs.YthlkcebdfbjdoaaGreat
