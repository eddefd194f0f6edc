/-
  Products of systems and automata: the reference's search, walked.
-/
import Derived.Test.YtahbdkmimmnadaaGreatDoorPathZ
import Derived.Test.YtahbdkmimmnadaaGreatDoorClassL
import Derived.Test.YtahbdkmimmnadaaGreatDoorChoS
import Derived.Test.YtahbdkmimmnadaaGreatDoorPathV
import Derived.Test.YtahbdkmimmnadaaGreatDoorEvDef
import Derived.Test.YtahbdkmimmnadaaGreatDoorRead
import Derived.Test.YtahbdkmimmnadaaGreatDoorLeast
set_option linter.unusedSimpArgs false
set_option linter.unusedVariables false
set_option linter.unusedSectionVars false
set_option maxRecDepth 8000
set_option maxHeartbeats 4000000
namespace Go.Proofs.YtahbdkmimmnadaaGreatDoor
namespace Ev
section
variable{R:Type}{L n:Nat}
theorem YH(hn:1<=n){c1 c2 c3 c5 c6:D}{al:Int}{zs:List Int}(hzl:zs.length<=1000)(hpr:∀i,i<=zs.length->0<=(zs.take i).foldl (·*·) 1/\(zs.take i).foldl (·*·) 1<=65536){k:KE R}:∀(j i m:Nat) (hi:i+j=zs.length) (hm:j<m),
  aS env (aA env L n) L 0 [] Bz2 (eA 0) (U1 (Z4 (Z2 (U32 (U32 (U32 (U4 ([])))))))) m (Y1 (.ptr 0 0 0::.d (.str [])::.d (.bool false)::.d (.ivs zs.length (ints zs))::nI ((zs.take i).foldl (·*·) 1)::nI i::Y32 (Y32 (Y32 (Y4 ([])))))) [.box [.d c1,.d c2,.d c3,nI al,.d c5,.d c6]] k
  =k (.exit 0) (Y1 (.ptr 0 0 0::.d (.str [])::.d (.bool false)::.d (.ivs zs.length (ints zs))::nI (zs.foldl (·*·) 1)::nI (zs.length)::Y32 (Y32 (Y32 (Y4 ([])))))) [.box [.d c1,.d c2,.d c3,nI al,.d c5,.d c6]]:=by
 intro j
 induction j with
 |zero=>
  intro i m hi hm;obtain _|m:=m;omega;obtain rfl:i=zs.length:=om;rw[Cs]
  simp-implicitDefEqProofs (maxSteps:=9^7) (disch:=try exact Dz) only[↓DN,↓kRet,UP,simprocAttr,Ak,HT,ED,Tryz.f83]
 |succ j ih=>
  intro i m hi hm;obtain _|m:=m;omega;have hk:i<zs.length:=om;have hc:(i:Int)<zs.length:=om;have hi0:(0:Int)<=i:=om;have ih':=ih (i+1) m om om;obtain⟨p0,p1⟩:=hpr (i+1) om
  have e:(zs.take (i+1)).foldl (·*·) 1=(zs.take i).foldl (·*·) 1*zs.getD i 0:=by
   rw[Dt,Ae hk,List.foldl_append,Aa,Ae hk];rfl
  rw[e]at ih' p0 p1;rw[cs1 i]at ih';clear ih e;generalize(zs.take i).foldl (·*·) 1=t at *
  simp-implicitDefEqProofs (maxSteps:=9^7) (disch:=try exact Dz) only[↓DN,↓kRet,UP,simprocAttr,hc,hi0,↓ih',HT,ED,Tryz.f83]
theorem XZ(hn:4<=n)(hL:2^60<=L){c1 c2 c3 c5 c6:D}{al:Int}{zs:List Int}{tab:List (List (List Int))}{tt i6:Nat}{gl:Int->Bool}(hzl:zs.length<=1000)(htt:tt<=65536)(hzp:∀z∈zs,0<z/\z<=65536)(htl:tab.length=tt)
  (kl_x:∀(v:Nat),v<tt->∀ {R:Type} {n:Nat} {k:A->Option R},2<=n->mU (aA env L n) 156 [.agg [.d c1,.d c2,.d c3,nI al,.d c5,.d c6],.d (.ivs zs.length (ints (decN zs v))),.d (.ivs (tab.getD v []).length (aP (tab.getD v [])))] k=k (.d (.bool (gl v))))
  {k:KE R}:∀(j v m:Nat) (o:List Int) (len:Nat) (hp:v+j=tt) (hm:j<m) (hlen:len=tt) (ho:o.length=tt),
  aS env (aA env L n) L 0 [] Bz2 (eA 1) (U1 (Z8 (Z1 (U32 (U32 (U32 (U1 ([])))))))) m (Y1 (.ptr 0 0 0::.d (.str [])::.d (.bool false)::.d (.ivs zs.length (ints zs))::nI tt::nI i6::.d (.ivs tab.length (tabD tab))::.sl 1 0 0 len::nI v::Y32 (Y32 (Y32 (Y1 ([])))))) [.box [.d c1,.d c2,.d c3,nI al,.d c5,.d c6],.arr (ints o) 1 0] k
  =k (.exit 2) (Y1 (.ptr 0 0 0::.d (.str [])::.d (.bool false)::.d (.ivs zs.length (ints zs))::nI tt::nI i6::.d (.ivs tab.length (tabD tab))::.sl 1 0 0 len::nI tt::Y32 (Y32 (Y32 (Y1 ([])))))) [.box [.d c1,.d c2,.d c3,nI al,.d c5,.d c6],.arr (ints (o.take v++(List.range' v j).map (dR gl))) 1 0]:=by
 intro j
 induction j with
 |zero=>
  intro v m o len hp hm hlen ho;obtain _|m:=m;omega;obtain rfl:v=tt:=om;subst hlen
  simp-implicitDefEqProofs (maxSteps:=9^7) (disch:=try exact Dz) only[↓DN,↓kRet,UP,simprocAttr,Ak,wP,vH,Tryz.f83];have e1:o.take len=o:=Ca om;simp[e1]
 |succ j ih=>
  intro v m o len hp hm hlen ho;obtain _|m:=m;omega;subst hlen;have hk:v<o.length:=om;have hkt:v<tab.length:=om;have hc:(v:Int)<len:=om;have hv0:(0:Int)<=v:=om;have hdl:=BQ zs v;have kc_d:=@QX L zs v hzp hzl hv0 om hL;have kl_y:=fun {R:Type} {n:Nat} {k:A->Option R} (hn:2<=n)=>kl_x v om (R:=R) (n:=n) (k:=k) hn;have kv_f:=fun {R:Type} {n:Nat} {hq:H} {args:List A} {k:KA R}=>fI (E:=env) (call:=aA env L n) (h:=hq) (k:=k) (args:=args) AX;rw[Ea,Af];generalize decN zs v=ss at *
  by_cases hg:gl v=true
  ·have ih':=ih (v+1) m ((o.set v (-1)).set v 0) len om om rfl (by simpa using ho);rw[cs1 v,aLb (by simpa using hk),List.take_set_of_le (Ad v)]at ih';rw[show dR gl v=0 by unfold dR;rw[if_pos hg]];rw[hg]at kl_y;clear ih kl_x
   simp-implicitDefEqProofs (maxSteps:=9^7) (disch:=try exact Dz) only[↓DN,↓kRet,UP,simprocAttr,TE,hc,hv0,↓kc_d,↓kv_f,↓kl_y,↓aLj,↓ih',wP,vH,Tryz.f83]
  ·have ih':=ih (v+1) m (o.set v (-1)) len om om rfl (by simpa using ho);rw[cs1 v,aLb (by simpa using hk)]at ih';rw[show dR gl v= -1 by unfold dR;rw[if_neg hg]];rw[Bool.not_eq_true]at hg;rw[hg]at kl_y;clear ih kl_x
   simp-implicitDefEqProofs (maxSteps:=9^7) (disch:=try exact Dz) only[↓DN,↓kRet,UP,simprocAttr,TE,hc,hv0,↓kc_d,↓kv_f,↓kl_y,↓aLj,↓ih',wP,vH,Tryz.f83]
theorem TA(hn:5<=n)(hL:2^60<=L){c1 c2 c3 c5 c6:D}{al d:Int}{zs ls dist at_:List Int}{o:List UInt8}{tab:List (List (List Int))}{aL i6 e:Nat}{i9:Int}(ht:BU tab aL)(hd:dist.length=aL)(htt:aL<=65536)(hat:at_.length<=65536)(har:∀x∈at_,0<=x/\x<aL)(hkk:∀kk,kk<ls.length->∀i,i<aL->kk<(tab.getD i []).length/\((tab.getD i []).getD kk []).length<=4096)(hd0:0<d)(hd1:d<=4294967296)(hls:ls.length<=6)(he:e<ls.length)(he1:bF tab dist e (d-1) at_ []≠[]){k:KE R}:∀(j kk m:Nat) (hp:kk+j=e) (hm:j<m) (hz:∀f,kk<=f->f<e->bF tab dist f (d-1) at_ []=[]),
  aS env (aA env L n) L 0 [] Bz2 (eA 3) Bz34 m (Y1 (.ptr 0 0 0::.d (.str [])::.d (.bool false)::.d (.ivs zs.length (ints zs))::nI aL::nI i6::.d (.ivs tab.length (tabD tab))::.sl 1 0 0 dist.length::nI i9::.d (.ivs at_.length (ints at_))::.d (.ivs ls.length (ints ls))::.d (.str o)::nI d::nI kk::.d (.ivs (bF tab dist kk (d-1) at_ []).length (ints (bF tab dist kk (d-1) at_ [])))::Y32 (Y32 (Y16 (Y8 (Y2 (Y1 ([])))))))) [.box [.d c1,.d c2,.d c3,nI al,.d c5,.d c6],.ice (ints dist) 1 0] k
  =k (.exit 6) (Y1 (.ptr 0 0 0::.d (.str [])::.d (.bool false)::.d (.ivs zs.length (ints zs))::nI aL::nI i6::.d (.ivs tab.length (tabD tab))::.sl 1 0 0 dist.length::nI i9::.d (.ivs at_.length (ints at_))::.d (.ivs ls.length (ints ls))::.d (.str o)::nI d::nI e::.d (.ivs (bF tab dist e (d-1) at_ []).length (ints (bF tab dist e (d-1) at_ [])))::Y32 (Y32 (Y16 (Y8 (Y2 (Y1 ([])))))))) [.box [.d c1,.d c2,.d c3,nI al,.d c5,.d c6],.ice (ints dist) 1 0]:=by
 intro j
 induction j with
 |zero=>
  intro kk m hp hm hz;obtain _|m:=m;omega;obtain rfl:kk=e:=om;generalize bF tab dist kk (d-1) at_ []=w at *
  have hw:¬((w.length:Int)=0):=by
   have:=Ed.2 he1;omega
  simp-implicitDefEqProofs (maxSteps:=9^7) (disch:=try exact Dz) only[↓DN,↓kRet,UP,simprocAttr,hw,oL,pH,Tryz.f83]
 |succ j ih=>
  intro kk m hp hm hz;obtain _|m:=m;omega;have h0:=hz kk (Ad _) om;have ih':=ih (kk+1) m om om (fun f h1 h2=>hz f om h2);have kc_c:=fun {R:Type} {n:Nat} {k:KA R} (hn:4<=n)=> @yT R env (aA env L n) [.box [.d c1,.d c2,.d c3,nI al,.d c5,.d c6],.ice (ints dist) 1 0] [.ice (ints dist) 1 0] [.ice (ints dist) 1 0] [.box [.d c1,.d c2,.d c3,nI al,.d c5,.d c6],.ice (ints dist) 1 0] 160 [.d (.ivs tab.length (tabD tab)),.sl 1 0 0 dist.length,.d (.ivs at_.length (ints at_)),nI ((kk+1:Nat):Int),nI (d-1)] [.d (.ivs tab.length (tabD tab)),.d (.ivs dist.length (ints dist)),.d (.ivs at_.length (ints at_)),nI ((kk+1:Nat):Int),nI (d-1)] _ k [1] [1] jT rfl kr rfl (by simp[eS,frzA,frz,frz0,aE,mapA,aH,deep,fE,eW]) rfl (@vS L n hn hL tab dist at_ (d-1) (kk+1) aL ht hd htt hat har (hkk (kk+1) om)) rfl sm rfl;rw[cs1 kk]at ih' kc_c;rw[h0];clear ih hkk har ht hz;generalize bF tab dist (kk+1) (d-1) at_ []=w at *
  simp-implicitDefEqProofs (maxSteps:=9^7) (disch:=try exact Dz) only[↓DN,↓kRet,UP,simprocAttr,↓kc_c,↓ih',oL,pH,Tryz.f83]
theorem S6(hn:5<=n)(hL:2^60<=L){c1 c2 c3 c5 c6:D}{al d:Int}{zs ls dist at_:List Int}{o:List UInt8}{tab:List (List (List Int))}{aL i6 e:Nat}{i9:Int}(ht:BU tab aL)(hd:dist.length=aL)(htt:aL<=65536)(hat:at_.length<=65536)(har:∀x∈at_,0<=x/\x<aL)(hkk:∀kk,kk<ls.length->∀i,i<aL->kk<(tab.getD i []).length/\((tab.getD i []).getD kk []).length<=4096)(hd0:0<d)(hd1:d<=4294967296)(hls:ls.length<=6)(he:e<ls.length)(he1:bF tab dist e (d-1) at_ []≠[]){k:KE R}:∀(j kk m:Nat) (hp:kk+j=e) (hm:j<m) (hz:∀f,kk<=f->f<e->bF tab dist f (d-1) at_ []=[]),
  aS env (aA env L n) L 0 [] Bz2 (eA 3) Bz34 m (Y1 (.ptr 0 0 0::.d (.str [])::.d (.bool false)::.d (.ivs zs.length (ints zs))::nI aL::nI i6::.d (.ivs tab.length (tabD tab))::.sl 1 0 0 dist.length::nI i9::.sl 2 0 0 at_.length::.d (.ivs ls.length (ints ls))::.d (.str o)::nI d::nI kk::.d (.ivs (bF tab dist kk (d-1) at_ []).length (ints (bF tab dist kk (d-1) at_ [])))::Y32 (Y32 (Y16 (Y8 (Y2 (Y1 ([])))))))) [.box [.d c1,.d c2,.d c3,nI al,.d c5,.d c6],.ice (ints dist) 1 0,.ice (ints at_) 1 0] k
  =k (.exit 6) (Y1 (.ptr 0 0 0::.d (.str [])::.d (.bool false)::.d (.ivs zs.length (ints zs))::nI aL::nI i6::.d (.ivs tab.length (tabD tab))::.sl 1 0 0 dist.length::nI i9::.sl 2 0 0 at_.length::.d (.ivs ls.length (ints ls))::.d (.str o)::nI d::nI e::.d (.ivs (bF tab dist e (d-1) at_ []).length (ints (bF tab dist e (d-1) at_ [])))::Y32 (Y32 (Y16 (Y8 (Y2 (Y1 ([])))))))) [.box [.d c1,.d c2,.d c3,nI al,.d c5,.d c6],.ice (ints dist) 1 0,.ice (ints at_) 1 0]:=by
 intro j
 induction j with
 |zero=>
  intro kk m hp hm hz;obtain _|m:=m;omega;obtain rfl:kk=e:=om;generalize bF tab dist kk (d-1) at_ []=w at *
  have hw:¬((w.length:Int)=0):=by
   have:=Ed.2 he1;omega
  simp-implicitDefEqProofs (maxSteps:=9^7) (disch:=try exact Dz) only[↓DN,↓kRet,UP,simprocAttr,hw,oL,pH,Tryz.f83]
 |succ j ih=>
  intro kk m hp hm hz;obtain _|m:=m;omega;have h0:=hz kk (Ad _) om;have ih':=ih (kk+1) m om om (fun f h1 h2=>hz f om h2);have kc_c:=fun {R:Type} {n:Nat} {k:KA R} (hn:4<=n)=> @yT R env (aA env L n) [.box [.d c1,.d c2,.d c3,nI al,.d c5,.d c6],.ice (ints dist) 1 0,.ice (ints at_) 1 0] [.ice (ints dist) 1 0,.ice (ints at_) 1 0] [.ice (ints dist) 1 0,.ice (ints at_) 1 0] [.box [.d c1,.d c2,.d c3,nI al,.d c5,.d c6],.ice (ints dist) 1 0,.ice (ints at_) 1 0] 160 [.d (.ivs tab.length (tabD tab)),.sl 1 0 0 dist.length,(.sl 2 0 0 at_.length),nI ((kk+1:Nat):Int),nI (d-1)] [.d (.ivs tab.length (tabD tab)),.d (.ivs dist.length (ints dist)),.d (.ivs at_.length (ints at_)),nI ((kk+1:Nat):Int),nI (d-1)] _ k [1,2] [1,2] jT rfl kr rfl (by simp[eS,frzA,frz,frz0,aE,mapA,aH,deep,fE,eW]) rfl (@vS L n hn hL tab dist at_ (d-1) (kk+1) aL ht hd htt hat har (hkk (kk+1) om)) rfl sm rfl;rw[cs1 kk]at ih' kc_c;rw[h0];clear ih hkk har ht hz;generalize bF tab dist (kk+1) (d-1) at_ []=w at *
  simp-implicitDefEqProofs (maxSteps:=9^7) (disch:=try exact Dz) only[↓DN,↓kRet,UP,simprocAttr,↓kc_c,↓ih',oL,pH,Tryz.f83]
theorem UV(hn:6<=n)(hL:2^60<=L){c1 c2 c3 c5 c6:D}{al:Int}{zs ls dist:List Int}{tab:List (List (List Int))}{aL i6:Nat}{i9:Int}(ht:BU tab aL)(hd:dist.length=aL)(htt:aL<=65536)(hkk:∀kk,kk<ls.length->∀i,i<aL->kk<(tab.getD i []).length/\((tab.getD i []).getD kk []).length<=4096)(hls:ls.length<=6)(hlr:∀c∈ls,0<=c/\c<=5){Q:Nat->List Int->Prop}
  (hQ:∀d at_,Q (d+1) at_->at_.length<=65536/\(∀x∈at_,0<=x/\x<aL)/\(∃e,e<ls.length/\bF tab dist e d at_ []≠[])/\∀e,e<ls.length->bF tab dist e d at_ []≠[]->Q d (bF tab dist e d at_ [])) {k:KE R}:∀(j:Nat) (d:Int) (m:Nat) (at_:List Int) (o:List UInt8) (hj:(j:Int)=d) (hm:j<m) (hd1:d<=16777300) (hat:Q j at_) (ho:o.length+j<=100000000),
  aS env (aA env L n) L 0 [] Bz2 (eA 2) Bz15 m (Y1 (.ptr 0 0 0::.d (.str [])::.d (.bool false)::.d (.ivs zs.length (ints zs))::nI aL::nI i6::.d (.ivs tab.length (tabD tab))::.sl 1 0 0 dist.length::nI i9::.d (.ivs at_.length (ints at_))::.d (.ivs ls.length (ints ls))::.d (.str o)::nI d::Y32 (Y32 (Y16 (Y8 (Y4 (Y1 ([])))))))) [.box [.d c1,.d c2,.d c3,nI al,.d c5,.d c6],.ice (ints dist) 1 0] k
  =k (.exit 4) (Y1 (.ptr 0 0 0::.d (.str [])::.d (.bool false)::.d (.ivs zs.length (ints zs))::nI aL::nI i6::.d (.ivs tab.length (tabD tab))::.sl 1 0 0 dist.length::nI i9::.d (.ivs (gEnd tab dist ls j at_).length (ints (gEnd tab dist ls j at_)))::.d (.ivs ls.length (ints ls))::.d (.str ((o++txt (nD tab dist ls j at_))))::nI 0::Y32 (Y32 (Y16 (Y8 (Y4 (Y1 ([])))))))) [.box [.d c1,.d c2,.d c3,nI al,.d c5,.d c6],.ice (ints dist) 1 0]:=by
 intro j
 induction j with
 |zero=>
  intro d m at_ o hj hm hd1 hat ho;obtain _|m:=m;omega;obtain rfl:d=0:=om;simp only[gEnd,nD,txt,Al,Ah]
  simp-implicitDefEqProofs (maxSteps:=9^7) (disch:=try exact Dz) only[↓DN,↓kRet,UP,simprocAttr,Ak,n7,pG,Tryz.f83]
 |succ j ih=>
  intro d m at_ o hj hm hd1 hat ho;obtain _|m:=m;omega;obtain⟨q1,q2,q3,q4⟩:=hQ j at_ hat;obtain⟨e,e1,e2,e3,e4⟩:=aC7 q3;have hd0:0<d:=om;have hat2:=q4 e e1 e3;have hj:(j:Int)=d-1:=om;simp only[gEnd,nD,e2];rw[hj]at hat2|-;have kc_c:=fun {R:Type} {n:Nat} {k:KA R} (hn:4<=n)=> @yT R env (aA env L n) [.box [.d c1,.d c2,.d c3,nI al,.d c5,.d c6],.ice (ints dist) 1 0] [.ice (ints dist) 1 0] [.ice (ints dist) 1 0] [.box [.d c1,.d c2,.d c3,nI al,.d c5,.d c6],.ice (ints dist) 1 0] 160 [.d (.ivs tab.length (tabD tab)),.sl 1 0 0 dist.length,.d (.ivs at_.length (ints at_)),nI ((0:Nat):Int),nI (d-1)] [.d (.ivs tab.length (tabD tab)),.d (.ivs dist.length (ints dist)),.d (.ivs at_.length (ints at_)),nI ((0:Nat):Int),nI (d-1)] _ k [1] [1] jT rfl kr rfl (by simp[eS,frzA,frz,frz0,aE,mapA,aH,deep,fE,eW]) rfl (@vS L n hn hL tab dist at_ (d-1) 0 aL ht hd htt q1 q2 (hkk 0 om)) rfl sm rfl;have loop_c:=fun {R:Type} {n:Nat} (hn:5<=n) {k:KE R}=> @TA R L n hn hL c1 c2 c3 c5 c6 al d zs ls dist at_ o tab aL i6 e i9 ht hd htt q1 q2 hkk om om hls e1 (by rw[<-hj];exact e3) k e 0 L om om (fun f _ h=>by rw[<-hj];exact e4 f h);simp only[Aw]at kc_c loop_c;obtain⟨l0,l5⟩:=hlr _ (fO e1);have hc:(e:Int)<ls.length:=om;have he0:(0:Int)<=e:=om;have ih':=ih (d-1) m (bF tab dist e (d-1) at_ []) (o++[gC (ls.getD e 0)]) hj om om hat2 (by simp;omega);simp only[txt,Af,Ao,As,Am]at ih'|-;clear ih hkk ht hQ hat hat2 q2 q3 q4 e2 e3 e4 hlr;generalize bF tab dist e (d-1) at_ []=w at *;generalize bF tab dist 0 (d-1) at_ []=w0 at *
  simp-implicitDefEqProofs (maxSteps:=9^7) (disch:=try exact Dz) only[↓DN,↓kAsg,↓kRet,UP,simprocAttr,↓ZI,hc,he0,hd0,↓kc_c,↓loop_c,↓ih',n7,pG,Tryz.f83]
theorem VB{R:Type}{L n m:Nat}{c1 c2 c3 c5 c6:D}{al:Int}{zs ls dist:List Int}{tab:List (List (List Int))}{aL i6:Nat}{i9:Int}{d:Int}{o:List UInt8}{at_:List Int}(hd:¬0<d){k:KE R}:
  aS env (aA env L n) L 0 [] Bz2 (eA 2) Bz15 (m+1) (Y1 (.ptr 0 0 0::.d (.str [])::.d (.bool false)::.d (.ivs zs.length (ints zs))::nI aL::nI i6::.d (.ivs tab.length (tabD tab))::.sl 1 0 0 dist.length::nI i9::.sl 2 0 0 at_.length::.d (.ivs ls.length (ints ls))::.d (.str o)::nI d::Y32 (Y32 (Y16 (Y8 (Y4 (Y1 ([])))))))) [.box [.d c1,.d c2,.d c3,nI al,.d c5,.d c6],.arr (ints dist) 1 0,.arr (ints at_) 1 0] k
  =k (.exit 4) (Y1 (.ptr 0 0 0::.d (.str [])::.d (.bool false)::.d (.ivs zs.length (ints zs))::nI aL::nI i6::.d (.ivs tab.length (tabD tab))::.sl 1 0 0 dist.length::nI i9::.sl 2 0 0 at_.length::.d (.ivs ls.length (ints ls))::.d (.str o)::nI d::Y32 (Y32 (Y16 (Y8 (Y4 (Y1 ([])))))))) [.box [.d c1,.d c2,.d c3,nI al,.d c5,.d c6],.arr (ints dist) 1 0,.arr (ints at_) 1 0]:=by
 simp-implicitDefEqProofs (maxSteps:=9^7) (disch:=try exact Dz) only[↓DN,↓kRet,UP,simprocAttr,hd,n7,pG,Tryz.f83]
theorem WB(hn:6<=n)(hL:2^60<=L){c1 c2 c3 c5 c6:D}{al:Int}{zs ls dist:List Int}{tab:List (List (List Int))}{aL i6:Nat}{i9:Int}(ht:BU tab aL)(hd:dist.length=aL)(htt:aL<=65536)(hkk:∀kk,kk<ls.length->∀i,i<aL->kk<(tab.getD i []).length/\((tab.getD i []).getD kk []).length<=4096)(hls:ls.length<=6)(hlr:∀c∈ls,0<=c/\c<=5){Q:Nat->List Int->Prop}
  (hQ:∀d at_,Q (d+1) at_->at_.length<=65536/\(∀x∈at_,0<=x/\x<aL)/\(∃e,e<ls.length/\bF tab dist e d at_ []≠[])/\∀e,e<ls.length->bF tab dist e d at_ []≠[]->Q d (bF tab dist e d at_ [])) {k:KE R} (j:Nat) (d:Int) (m:Nat) (at_:List Int) (o:List UInt8) (hj:((j+1:Nat):Int)=d) (hm:j+1<m) (hd1:d<=16777300) (hat:Q (j+1) at_) (ho:o.length+(j+1)<=100000000):
  aS env (aA env L n) L 0 [] Bz2 (eA 2) Bz15 m (Y1 (.ptr 0 0 0::.d (.str [])::.d (.bool false)::.d (.ivs zs.length (ints zs))::nI aL::nI i6::.d (.ivs tab.length (tabD tab))::.sl 1 0 0 dist.length::nI i9::.sl 2 0 0 at_.length::.d (.ivs ls.length (ints ls))::.d (.str o)::nI d::Y32 (Y32 (Y16 (Y8 (Y4 (Y1 ([])))))))) [.box [.d c1,.d c2,.d c3,nI al,.d c5,.d c6],.arr (ints dist) 1 0,.arr (ints at_) 1 0] k
  =k (.exit 4) (Y1 (.ptr 0 0 0::.d (.str [])::.d (.bool false)::.d (.ivs zs.length (ints zs))::nI aL::nI i6::.d (.ivs tab.length (tabD tab))::.sl 1 0 0 dist.length::nI i9::.d (.ivs (gEnd tab dist ls (j+1) at_).length (ints (gEnd tab dist ls (j+1) at_)))::.d (.ivs ls.length (ints ls))::.d (.str ((o++txt (nD tab dist ls (j+1) at_))))::nI 0::Y32 (Y32 (Y16 (Y8 (Y4 (Y1 ([])))))))) [.box [.d c1,.d c2,.d c3,nI al,.d c5,.d c6],.ice (ints dist) 1 0]:=by
  obtain _|m:=m;omega;obtain⟨q1,q2,q3,q4⟩:=hQ j at_ hat;obtain⟨e,e1,e2,e3,e4⟩:=aC7 q3;have hd0:0<d:=om;have hat2:=q4 e e1 e3;have hj:(j:Int)=d-1:=om;simp only[gEnd,nD,e2];rw[hj]at hat2|-;have kc_c:=fun {R:Type} {n:Nat} {k:KA R} (hn:4<=n)=> @yT R env (aA env L n) [.box [.d c1,.d c2,.d c3,nI al,.d c5,.d c6],.arr (ints dist) 1 0,.arr (ints at_) 1 0] [.arr (ints dist) 1 0,.arr (ints at_) 1 0] [.ice (ints dist) 1 0,.ice (ints at_) 1 0] [.box [.d c1,.d c2,.d c3,nI al,.d c5,.d c6],.ice (ints dist) 1 0,.ice (ints at_) 1 0] 160 [.d (.ivs tab.length (tabD tab)),.sl 1 0 0 dist.length,(.sl 2 0 0 at_.length),nI ((0:Nat):Int),nI (d-1)] [.d (.ivs tab.length (tabD tab)),.d (.ivs dist.length (ints dist)),.d (.ivs at_.length (ints at_)),nI ((0:Nat):Int),nI (d-1)] _ k [1,2] [1,2] jT rfl kr rfl (by simp[eS,frzA,frz,frz0,aE,mapA,aH,deep,fE,eW]) rfl (@vS L n hn hL tab dist at_ (d-1) 0 aL ht hd htt q1 q2 (hkk 0 om)) rfl sm rfl;have loop_c:=fun {R:Type} {n:Nat} (hn:5<=n) {k:KE R}=> @S6 R L n hn hL c1 c2 c3 c5 c6 al d zs ls dist at_ o tab aL i6 e i9 ht hd htt q1 q2 hkk om om hls e1 (by rw[<-hj];exact e3) k e 0 L om om (fun f _ h=>by rw[<-hj];exact e4 f h);simp only[Aw]at kc_c loop_c;obtain⟨l0,l5⟩:=hlr _ (fO e1);have hc:(e:Int)<ls.length:=om;have he0:(0:Int)<=e:=om;have ih':=fun {R:Type} {n:Nat} (hn:6<=n) {k:KE R}=> @UV R L n hn hL c1 c2 c3 c5 c6 al zs ls dist tab aL i6 i9 ht hd htt hkk hls hlr Q hQ k j (d-1) m (bF tab dist e (d-1) at_ []) (o++[gC (ls.getD e 0)]) hj om om hat2 (by simp;omega)
  simp only[txt,Af,Ao,As,Am]at ih'|-;clear hkk ht hQ hat hat2 q2 q3 q4 e2 e3 e4 hlr;generalize bF tab dist e (d-1) at_ []=w at *;generalize bF tab dist 0 (d-1) at_ []=w0 at *
  simp-implicitDefEqProofs (maxSteps:=9^7) (disch:=try exact Dz) only[↓DN,↓kAsg,↓kRet,UP,simprocAttr,↓ZI,hc,he0,hd0,↓kc_c,↓loop_c,↓ih',n7,pG,Tryz.f83]
theorem aGx(hn:11<=n)(hL:2^60<=L){n1 n2:Nat}{d1 d2:List D}{kd go:Int}{al s:Int}{start zs:List Int}{nx:Int->Int->List Int}{gl:Int->Bool}{tt:Nat}(hzl:zs.length<=1000)(hsl:start.length=zs.length)(hpr:∀i,i<=zs.length->0<=(zs.take i).foldl (·*·) 1/\(zs.take i).foldl (·*·) 1<=65536)(hzt:zs.foldl (·*·) (1:Int)=(tt:Int))(hzp:∀z∈zs,0<z/\z<=65536)(hen:QD zs start 0)(hes:encN zs start 0=s)(hs0:0<=s)(hs1:s<tt)
  (he_z:∀ {n:Nat},2<=n->aA env L n 154 [.agg [.d (.ivs n1 d1),.d (.ivs n2 d2),.d (.ivs start.length (ints start)),nI al,nI kd,nI go]] []=some (.d (.ivs zs.length (ints zs)),[]))
  (kc_x:∀(v:Nat) (l:Int),v<tt->l∈aC al->∀ {R:Type} {n:Nat} {hq:H} {k:KA R},7<=n->aW env (aA env L n) hq 212 [.agg [.d (.ivs n1 d1),.d (.ivs n2 d2),.d (.ivs start.length (ints start)),nI al,nI kd,nI go],.d (.ivs zs.length (ints zs)),.d (.ivs zs.length (ints (decN zs v))),nI l] k=k (.d (.ivs (nx v l).length (ints (nx v l)))) hq)
  (kl_x:∀(v:Nat),v<tt->∀ {R:Type} {n:Nat} {k:A->Option R},2<=n->mU (aA env L n) 156 [.agg [.d (.ivs n1 d1),.d (.ivs n2 d2),.d (.ivs start.length (ints start)),nI al,nI kd,nI go],.d (.ivs zs.length (ints (decN zs v))),.d (.ivs ((movT nx (aC al) tt).getD v []).length (aP ((movT nx (aC al) tt).getD v [])))] k=k (.d (.bool (gl v))))
  (hw:∀v c:Int,0<=v->v<tt->c∈aC al->(nx v c).length<=4096/\∀m∈nx v c,0<=m/\m<tt):
  aA env L n 83 [.agg [.d (.ivs n1 d1),.d (.ivs n2 d2),.d (.ivs start.length (ints start)),nI al,nI kd,nI go]] []=some (.tup [.d (.str (txt (aDd nx gl (aC al) tt s).1)),.d (.bool (aDd nx gl (aC al) tt s).2)],[]):=by
 have htt:tt<=65536:=by have:=(hpr zs.length (Ad _)).2;rw[Cs,hzt]at this;omega
 have hrng:∀v c:Int,0<=v->v<tt->c∈aC al->∀m∈nx v c,0<=m/\m<tt:=fun v c h1 h2 h3=>(hw v c h1 h2 h3).2;have hT:=aAA hrng;have hF:=aQB (gl:=gl) hT;have hq:=aRq hT hF htt;have hls:=dD al;have hTl:(movT nx (aC al) tt).length=tt:=by simp[movT]
 have hTin:BU (movT nx (aC al) tt) tt:=by
  refine⟨hTl,fun i hi=> ?_⟩;rw[hT.row i hi];refine⟨by simp;omega,fun r hr=> ?_⟩;obtain⟨c,hc,rfl⟩:=Bf.1 hr;have:=hw i c om om hc;exact⟨by omega,this.2⟩
 have hkk:∀kk,kk<(aC al).length->∀i,i<tt->kk<((movT nx (aC al) tt).getD i []).length/\(((movT nx (aC al) tt).getD i []).getD kk []).length<=4096:=by
  intro kk hk i hi;rw[hT.row i hi];refine⟨by simpa using hk,?_⟩;rw[Aa,Bb,Ae hk];exact(hw i _ om om (Ba hk)).1
 have kc_z:=fun {R:Type} {n:Nat} (hn:2<=n) {hq:H} {k:KA R}=>cS (E:=env) (call:=aA env L n) (h:=hq) (k:=k) rfl (he_z hn) rfl (.inr rfl);have loop_a:=fun {R:Type} {n:Nat} (hn:1<=n) {k:KE R}=> @YH R L n hn (.ivs n1 d1) (.ivs n2 d2) (.ivs start.length (ints start)) (.int .i64 kd) (.int .i64 go) al zs hzl hpr k zs.length 0 L om om;have kc_m:=fun {R:Type} {n:Nat} (hn:9<=n) {hq:H} {k:KA R}=>cS (E:=env) (call:=aA env L n) (h:=hq) (k:=k) rfl (@aHq L n hn hL n1 n2 start.length d1 d2 (ints start) kd go zs al nx tt hzl htt hzp kc_x) rfl (.inr rfl);have loop_b:=fun {R:Type} {n:Nat} (hn:4<=n) {k:KE R}=> @XZ R L n hn hL (.ivs n1 d1) (.ivs n2 d2) (.ivs start.length (ints start)) (.int .i64 kd) (.int .i64 go) al zs (movT nx (aC al) tt) tt zs.length gl hzl htt hzp hTl kl_x k tt 0 L (List.replicate tt 0) tt om om rfl sm;have hd0:((List.range tt).map (dR gl)).length=tt:=sm;have hd1:(dJ (movT nx (aC al) tt) (tt+1) 1 ((List.range tt).map (dR gl))).length=tt:=hF.1
 have kc_d:∀ {R:Type} {n:Nat} (hn:4<=n) {k:KA R},aW env (aA env L n) [.box [.d (.ivs n1 d1),.d (.ivs n2 d2),.d (.ivs start.length (ints start)),nI al,nI kd,nI go],.arr (ints ((List.range tt).map (dR gl))) 1 0] 158 [.d (.ivs (movT nx (aC al) tt).length (tabD (movT nx (aC al) tt))),.sl 1 0 0 ((List.range tt).map (dR gl)).length] k=k (.tup []) [.box [.d (.ivs n1 d1),.d (.ivs n2 d2),.d (.ivs start.length (ints start)),nI al,nI kd,nI go],.arr (ints (dJ (movT nx (aC al) tt) (tt+1) 1 ((List.range tt).map (dR gl)))) 1 0]:=fun {R n} hn {k}=>TG (id:=1) rfl rfl ER rfl (aJA hn hL hTin htt _ hd0);have kc_e:=fun {R:Type} {n:Nat} (hn:2<=n) {hq:H} {k:KA R}=> @aGN R L n hq k hn zs start hzl hsl hen hL
 have hQ0:0<=(dJ (movT nx (aC al) tt) (tt+1) 1 ((List.range tt).map (dR gl))).getD s.toNat 0->Qs nx (aC al) gl tt ((dJ (movT nx (aC al) tt) (tt+1) 1 ((List.range tt).map (dR gl))).getD s.toNat 0).toNat [s]:=by
  intro h;refine⟨fun v hv=> ?_,by simp,by simp;omega⟩;simp at hv;subst hv;exact⟨⟨hs0,hs1⟩,(I8 hF hs0 hs1).1 om⟩
 have hdb:(dJ (movT nx (aC al) tt) (tt+1) 1 ((List.range tt).map (dR gl))).getD s.toNat 0<=16777300:=by
  have hk:s.toNat<(dJ (movT nx (aC al) tt) (tt+1) 1 ((List.range tt).map (dR gl))).length:=om;refine aBN (B:=16777300) _ _ _ om (fun x hx=> ?_) _ (fO hk);obtain⟨v,_,rfl⟩:=Bf.1 hx;unfold dR
  split<;>omega
 simp only[Aw,List.take_zero,List.foldl_nil,Am,hzt,<-List.range_eq_range']at loop_a loop_b;rw[hes]at kc_e;have em:(List.range tt).map (fun(x:Nat)=>(aC al).map (nx x))=movT nx (aC al) tt:=rfl;rw[em]at kc_m;rw[hTl]at kc_d loop_b;rw[hd0]at kc_d;unfold aDd aCw;have loop_2:=fun {R:Type} {n:Nat} (hn:6<=n) {k:KE R} (j:Nat) (hj) (hm) (h1) (h2) (h3)=> @WB R L n hn hL (.ivs n1 d1) (.ivs n2 d2) (.ivs start.length (ints start)) (.int .i64 kd) (.int .i64 go) al zs (aC al) _ _ tt zs.length tt hTin hd1 htt hkk hls (fun c hc=>d7 c hc) _ hq k j ((dJ (movT nx (aC al) tt) (tt+1) 1 ((List.range tt).map (dR gl))).getD s.toNat 0) L [s] [] hj hm h1 h2 h3;rw[hTl,hd1]at loop_2;clear hkk hTin kl_x kc_x he_z hw hrng
 have hgt0:0<(dJ (movT nx (aC al) tt) (tt+1) 1 ((List.range tt).map (dR gl))).getD s.toNat 0->Qs nx (aC al) gl tt (((dJ (movT nx (aC al) tt) (tt+1) 1 ((List.range tt).map (dR gl))).getD s.toNat 0).toNat-1+1) [s]:=by
  intro h;have h2:=hQ0 om;rw[show((dJ (movT nx (aC al) tt) (tt+1) 1 ((List.range tt).map (dR gl))).getD s.toNat 0).toNat-1+1=((dJ (movT nx (aC al) tt) (tt+1) 1 ((List.range tt).map (dR gl))).getD s.toNat 0).toNat by omega];exact h2
 have loop_2:=fun {R:Type} {n:Nat} (hn:6<=n) {k:KE R} (h:0<(dJ (movT nx (aC al) tt) (tt+1) 1 ((List.range tt).map (dR gl))).getD s.toNat 0)=>loop_2 (R:=R) (n:=n) hn (k:=k) (((dJ (movT nx (aC al) tt) (tt+1) 1 ((List.range tt).map (dR gl))).getD s.toNat 0).toNat-1) om om hdb (hgt0 h) (by simp only[Ab];omega);clear hT hF hq hQ0 hgt0;generalize dJ (movT nx (aC al) tt) (tt+1) 1 ((List.range tt).map (dR gl))=dist at *;generalize movT nx (aC al) tt=tab at *;generalize(List.range tt).map (dR gl)=dz at *;have hrep:(List.replicate tt (0:Int)).length=tt:=sm;have hsn:s.toNat<dist.length:=om;have hs2:s<(dist.length:Int):=om;have hs3:s<(tt:Int):=om;have htt0:(0:Int)<=tt:=om;have esn:ints [s]=[.int .i64 s]:=rfl;have e1:[s].length=1:=rfl;rw[esn,e1]at loop_2;have loop_z:=fun {R:Type} {n m:Nat} {k:KE R} (h:¬0<dist.getD s.toNat 0)=> @VB R L n m (.ivs n1 d1) (.ivs n2 d2) (.ivs start.length (ints start)) (.int .i64 kd) (.int .i64 go) al zs (aC al) dist tab tt zs.length tt (dist.getD s.toNat 0) [] [s] h k;rw[hTl,hd1,esn,e1]at loop_z;generalize hdd:dist.getD s.toNat 0=d at *;obtain _|L:=L;omega
 rcases Int.lt_trichotomy d 0 with hlt|heq|hgt
 ·have loop_z:=fun {R:Type} {n m:Nat} {k:KE R}=>loop_z (R:=R) (n:=n) (m:=m) (k:=k) om;have hne:¬d=0:=om;rw[if_pos hlt];clear loop_2;obtain _|n:=n;omega
  simp-implicitDefEqProofs (maxSteps:=9^7) (disch:=try exact Dz) only[↓DN,↓kAsg,↓kRet,UP,simprocAttr,↓fL,↓kc_z,↓loop_a,↓kc_m,↓DW,↓loop_b,↓kc_d,↓kc_e,↓loop_z,hdd,hne,hs0,hs3,IU,B7,Tryz.f83]<;>rfl
 ·subst heq;have loop_z:=fun {R:Type} {n m:Nat} {k:KE R}=>loop_z (R:=R) (n:=n) (m:=m) (k:=k) om;rw[if_neg om];clear loop_2;obtain _|n:=n;omega
  simp-implicitDefEqProofs (maxSteps:=9^7) (disch:=try exact Dz) only[↓DN,↓kAsg,↓kRet,UP,simprocAttr,↓fL,↓kc_z,↓loop_a,↓kc_m,↓DW,↓loop_b,↓kc_d,↓kc_e,↓loop_z,hdd,hs0,hs3,IU,B7,Tryz.f83]<;>rfl
 ·have loop_y:=fun {R:Type} {n:Nat} (hn:6<=n) {k:KE R}=>loop_2 (R:=R) (n:=n) hn (k:=k) hgt;rw[if_neg om];simp only[Am]at loop_y;have ed:d.toNat-1+1=d.toNat:=om;rw[ed]at loop_y;clear loop_2 loop_z;generalize gEnd tab dist (aC al) d.toNat [s]=ge at *;generalize nD tab dist (aC al) d.toNat [s]=gr at *;obtain _|n:=n;omega
  simp-implicitDefEqProofs (maxSteps:=9^7) (disch:=try exact Dz) only[↓DN,↓kAsg,↓kRet,UP,simprocAttr,↓fL,↓kc_z,↓loop_a,↓kc_m,↓DW,↓loop_b,↓kc_d,↓kc_e,↓loop_y,hdd,hs0,hs3,IU,B7,Tryz.f83]
end
def netP(P:List Sys)(b:Aut):Net:=⟨P,[b],List.replicate (P.length+1) 0,parA P,3,0⟩
def msP(P:List Sys)(b:Aut)(l:Int):List Mb:=P.map (sysS l)++[((b.nx.length:Int),fun q=>[goI b.al b.nx q l])]
def zsP(P:List Sys)(b:Aut):List Int:=P.map (·.st)++[(b.nx.length:Int)]
def chP(P:List Sys)(b:Aut)(l v:Int)(i:Nat):List Int:=((msP P b l).getD i (0,fun _=>[])).2 ((decN (zsP P b) v).getD i 0)
theorem aKw{P:List Sys}{b:Aut}{l:Int}:(msP P b l).map (·.1)=zsP P b:=by
 unfold msP zsP;rw[Dp,List.map_map];rfl
theorem aLf{P:List Sys}{b:Aut}:(zsP P b).length=P.length+1:=by simp[zsP]
theorem nexP{P:List Sys}{b:Aut}{l v:Int}:nexG (chP P b l v) (zsP P b) (zsP P b).length 0 [0]=nxSp P b v l:=by
 have h:=@aPm (msP P b l) v (chP P b l v) (fun k _=>by unfold chP;rw[<-aKw (l:=l)]);rw[aKw]at h;have hl:(zsP P b).length=(msP P b l).length:=by rw[aLf];simp[msP]
 rw[hl,h];unfold msP nxSp;rw[List.reverse_append,List.reverse_singleton,En,nxR,<-List.map_reverse]
theorem aEn{P:List Sys}{b:Aut}{l v:Int}{i:Nat}(hi:i<P.length):chP P b l v i=choS (P.getD i default) l ((decN (zsP P b) v).getD i 0):=by
 unfold chP msP;rw[iB (by simpa using hi),Aa,Bb,Ae hi,Aa (l:=P),Ae hi];rfl
theorem aDB{P:List Sys}{b:Aut}{l v:Int}:chP P b l v P.length=[goI b.al b.nx ((decN (zsP P b) v).getD P.length 0) l]:=by
 unfold chP msP;have h:=@xN Mb (P.map (sysS l)) ((b.nx.length:Int),fun q=>[goI b.al b.nx q l]) (0,fun _=>[]);rw[Ar]at h;rw[h]
theorem aDA{P:List Sys}{b:Aut}{v:Int}:(decN (zsP P b) v).getD P.length 0=v.tmod b.nx.length:=by
 unfold zsP;rw[aME];have h:=@xN Int (decN (P.map (·.st)) (v.tdiv b.nx.length)) (v.tmod b.nx.length) 0;rw[BQ,Ar]at h;exact h
theorem aKT:∀ {zs:List Int} {z0:Int},0<z0->(∀z∈zs,0<z/\z<=16)->0<zs.foldl (·*·) z0/\zs.foldl (·*·) z0<=16^zs.length*z0
 | [],z0,h,_=>by simpa using h
 |z::zs,z0,h,hz=>by
  obtain⟨z1,z2⟩:=hz z Bg;obtain⟨h1,h2⟩:=aKT (Int.mul_pos h z1) fun y hy=>hz y (Bc _ hy);rw[Co,Ac,Int.pow_succ,Int.mul_assoc];refine⟨h1,Cy h2 (Dn ?_ (Int.pow_nonneg om))⟩;rw[Int.mul_comm];exact Cm z2 om
theorem aGn{L n:Nat}(hn:11<=n)(hL:2^60<=L){P:List Sys}(hP:cW P)(hv:bQ P=true){b:Aut}(hb:AOK b):
  aA env L n 83 [.agg [.d (.ivs P.length (sysD P)),.d (.ivs 1 (jW [b])),.d (.ivs (List.replicate (P.length+1) (0:Int)).length (ints (List.replicate (P.length+1) 0))),nI (parA P),nI 3,nI 0]] []=some (.tup [.d (.str (txt (brkG P b).1)),.d (.bool (brkG P b).2)],[]):=by
 obtain⟨h3,h1,hs⟩:=dH hv;obtain⟨sz0,sz1⟩:=CK h3 hs;obtain⟨sb,wb,b1,b2,b3⟩:=eX hb;have hzl:=aLf (P:=P) (b:=b)
 have hzp:∀z∈zsP P b,0<z/\z<=16:=by
  intro z hz
  rcases Aq.1 hz with h|h
  ·obtain⟨s,hs2,rfl⟩:=Bf.1 h;obtain⟨_,s1,s2,_,_⟩:=dK.1 (hs s hs2);omega
  ·rw[Bi]at h;omega
 have hpr:∀i,i<=(zsP P b).length->0<((zsP P b).take i).foldl (·*·) 1/\((zsP P b).take i).foldl (·*·) 1<=65536:=by
  intro i hi;obtain⟨p1,p2⟩:=aKT (zs:=(zsP P b).take i) (z0:=1) om fun z hz=>hzp z (List.mem_of_mem_take hz);refine⟨p1,Cy p2 ?_⟩;have hl:((zsP P b).take i).length<=4:=by rw[Cv];omega
  rcases(show((zsP P b).take i).length=0\/((zsP P b).take i).length=1\/((zsP P b).take i).length=2\/((zsP P b).take i).length=3\/((zsP P b).take i).length=4 by omega)with h|h|h|h|h<;>rw[h]<;>decide
 have hzt:(zsP P b).foldl (·*·) 1=cI P*b.nx.length:=by
  unfold zsP;rw[List.foldl_append,List.foldl_map];rfl
 have hp:0<cI P:=KM om hs;have hpos:0<cI P*b.nx.length:=Int.mul_pos hp om;have et:(((cI P*b.nx.length).toNat:Nat):Int)=cI P*b.nx.length:=Cn om;have e16:∀i,i<(zsP P b).length->0<(zsP P b).getD i 0/\(zsP P b).getD i 0<=16:=fun i hi=>hzp _ (fO hi);have hlr:(List.replicate (P.length+1) (0:Int)).length=(zsP P b).length:=by rw[hzl,List.length_replicate]
 rw[<-aOY hv hb];refine @aGx L n hn hL P.length 1 (sysD P) (jW [b]) 3 0 (parA P) 0 (List.replicate (P.length+1) 0) (zsP P b) (nxSp P b) (glSp b) (cI P*b.nx.length).toNat om hlr (fun i hi=>⟨by have:=(hpr i hi).1;omega,(hpr i hi).2⟩) (by rw[hzt,et]) (fun z hz=>by have:=hzp z hz;omega) (by rw[<-hzl];exact aN6 _) (by rw[<-hzl];exact aEE _) (Cb 0) om (fun {n} hn=> ?_) (fun v l hv hl {R n hq k} hn=> ?_) (fun v hv {R n k} hn=> ?_) (fun v c h0 _ hc=> ?_)
 ·exact @aHi L n hn (netP P b) (by show P.length<=1000;omega) (by show 1<=1000;omega) (fun x hx=>by have h:x∈[b]:=hx;rw[Bi]at h;subst h;omega) hL
 ·have hl2:=d7 l hl;have hdl:=BQ (zsP P b) v;have hdr:=fun i (hi:i<(zsP P b).length)=>aPW (v:=(v:Int)) (fun z hz=>(hzp z hz).1) om hi;have ga:=GK hb (l:=l) (j0 (v:=(v:Int)) (z:=(b.nx.length:Int)) om om).1 (j0 (v:=(v:Int)) (z:=(b.nx.length:Int)) om om).2 hl2.1 om;have key:=cS (E:=env) (call:=aA env L n) (h:=hq) (k:=k) rfl (@aJs L n hn hL P.length 1 (List.replicate (P.length+1) (0:Int)).length (sysD P) (jW [b]) (ints (List.replicate (P.length+1) 0)) (parA P) 3 0 (zsP P b) (decN (zsP P b) v) l (chP P b l v) (fun i=>((zsP P b).take i).foldl (·*·) 1-1) hdl.symm om (fun t ht {R n hq k} hn=> ?_) (fun t ht=>by have:=e16 t om;omega) (fun t ht=> ?_) (fun t ht c hc=> ?_) sm (fun t ht=> ?_)) rfl (.inr rfl)
  ·rw[hdl,nexP]at key;exact key
  ·by_cases htp:t<P.length
   ·rw[aEn htp];exact cS (E:=env) rfl (aDu hn hL (netP P b) t _ l htp (by show P.length<=1000;omega) _ rfl (XT hP htp) hl2.1 om) rfl (.inr rfl)
   ·obtain rfl:t=P.length:=om;rw[aDB,aDA];have r:=j0 (v:=(v:Int)) (z:=(b.nx.length:Int)) om om;exact cS (E:=env) rfl (aDK hn (netP P b) P.length _ l (Ad _) (by show P.length-P.length<1;omega) (by show P.length<=1000;omega) (by show 1<=1000;omega) b (by show [b].getD (P.length-P.length) default=b;rw[Cp];rfl) sb wb r.1 r.2 hl2.1 om hL) rfl (.inr rfl)
  ·by_cases htp:t<P.length
   ·rw[aEn htp];have h:=hdr t om
    have e:(zsP P b).getD t 0=(P.getD t default).st:=by
     unfold zsP;rw[iB (by simpa using htp),Aa,Bb,Ae htp,Aa,Ae htp];rfl
    rw[e]at h;exact aI0 (hs _ (HE htp)) h
   ·obtain rfl:t=P.length:=om;rw[aDB];simp
  ·by_cases htp:t<P.length
   ·rw[aEn htp]at hc;have h:=hdr t om
    have e:(zsP P b).getD t 0=(P.getD t default).st:=by
     unfold zsP;rw[iB (by simpa using htp),Aa,Bb,Ae htp,Aa,Ae htp];rfl
    rw[e]at h|-;exact wB (hs _ (HE htp)) h c hc
   ·obtain rfl:t=P.length:=om;rw[aDB,aDA,Bi]at hc
    have e:(zsP P b).getD P.length 0=b.nx.length:=by
     have h:=@xN Int (P.map (·.st)) (b.nx.length:Int) 0;rw[Ar]at h;exact h
    rw[e,hc];exact ga
  ·have h:=hpr t om;have h2:=hpr (t+1) om;have hk:t<(zsP P b).length:=om
   have e:((zsP P b).take (t+1)).foldl (·*·) 1=((zsP P b).take t).foldl (·*·) 1*(zsP P b).getD t 0:=by
    rw[Dt,Ae hk,List.foldl_append,Aa,Ae hk];rfl
   have hz:=e16 t hk;simp only[e]at h2|-;rw[Int.sub_mul,Int.one_mul];omega
 ·have hdl:=BQ (zsP P b) v;have r:=j0 (v:=(v:Int)) (z:=(b.nx.length:Int)) om om;have hda:=aDA (P:=P) (b:=b) (v:=(v:Int))
  have hg:aHc (netP P b) (decN (zsP P b) v) ((movT (nxSp P b) (aC (parA P)) (cI P*b.nx.length).toNat).getD v [])=glSp b v:=by
   show(!(b.ac.getD ((decN (zsP P b) v).getD P.length 0).toNat false))=_;rw[hda];rfl
  have key:=oQ (k:=k) (aJl hn (netP P b) (decN (zsP P b) v) ((movT (nxSp P b) (aC (parA P)) (cI P*b.nx.length).toNat).getD v []) (.inr (.inr (.inr rfl))) (by show P.length<=1000;omega) (by show 1<=1000;omega) om ⟨by show 0<1;omega,by show P.length+0<_;omega,by show b.ac.length<=_;omega,by show 0<=(decN (zsP P b) v).getD P.length 0;rw[hda];exact r.1,by show(decN (zsP P b) v).getD P.length 0<(b.ac.length:Int);rw[hda];omega⟩ (fun h=>by rcases h with h|h<;>cases h) hL) rfl;rw[hdl,hg]at key;exact key
 ·have:=d7 c hc;rw[et];exact⟨aOL h3 hs h0,BO hs hb om h0⟩
section
variable{R:Type}{L n:Nat}
def accA(P:List Sys)(i q:Nat)(z:Int):Int:=((P.drop i).take (q-i)).foldl (fun z s=>iOr .i64 z s.al) z
theorem aGQ(hn:5<=n)(hL:2^60<=L){P:List Sys}(hP:cW P)(h3:P.length<=3){k:KE R}:∀(j i m:Nat) (z:Int) (hi:i+j=P.length) (hm:j<m),
  aS env (aA env L n) L 0 [] Bz57 (sG 0) (Z1 (U1 (Z2 (Z1 (U16 (U8 (U4 ([])))))))) m (.d (.ivs P.length (sysD P))::Y1 (nI 0::nI z::nI i::Y16 (Y8 (Y4 ([]))))) [] k
  =match seek (vV P) j i with
   |none=>k (.exit 0) (.d (.ivs P.length (sysD P))::Y1 (nI 0::nI ((P.drop i).foldl (fun z s=>iOr .i64 z s.al) z)::nI (P.length)::Y16 (Y8 (Y4 ([]))))) []
   |some q=>k .ret (.d (.ivs P.length (sysD P))::Y1 (nI (-1)::nI (accA P i q z)::nI q::Y16 (Y8 (Y4 ([]))))) []:=by
 intro j
 induction j with
 |zero=>
  intro i m z hi hm;obtain _|m:=m;omega;obtain rfl:i=P.length:=om;rw[Bl]
  simp-implicitDefEqProofs (maxSteps:=9^7) (disch:=try exact Dz) only[↓DN,↓kRet,UP,simprocAttr,Ak,jJ,iX,Tryz.f55]<;>rfl
 |succ j ih=>
  intro i m z hi hm;obtain _|m:=m;omega;have hk:i<P.length:=om;have hc:(i:Int)<P.length:=om;have hi0:(0:Int)<=i:=om;have g:=tG hk;have g1:=aNY hk;have hes:=XT hP hk;have hno:vV P i= !bK (P.getD i default):=rfl
  cases hz:bK (P.getD i default)with
  |false=>
   rw[hz]at hno;rw[i7 hno];have e0:accA P i i z=z:=by unfold accA;rw[Cp];rfl
   have hz2:bK ⟨(P.getD i default).al,(P.getD i default).st,(P.getD i default).es⟩=false:=hz;simp only[e0];clear ih hP hz;generalize P.getD i default=s at *
   simp-implicitDefEqProofs (maxSteps:=9^7) (disch:=try exact Dz) only[↓DN,↓kAsg,↓kRet,UP,simprocAttr,↓wO,NE,Ar,Bj,hc,hi0,g,hz2,jJ,iX,Tryz.f55]
  |true=>
   rw[hz]at hno;rw[lC hno];have ih':=ih (i+1) m (iOr .i64 z (P.getD i default).al) om om;rw[cs1 i]at ih';have hz2:bK ⟨(P.getD i default).al,(P.getD i default).st,(P.getD i default).es⟩=true:=hz;rw[bP hk (d:=default),Co];clear ih hP hz
   cases hsk:seek (vV P) j (i+1)with
   |none=>
    simp only[hsk]at ih'|-;generalize P.getD i default=s at *
    simp-implicitDefEqProofs (maxSteps:=9^7) (disch:=try exact Dz) only[↓DN,↓kRet,UP,simprocAttr,↓wO,NE,Ar,Bj,Br,hc,hi0,g,g1,hz2,↓ih',jJ,iX,Tryz.f55]
   |some q=>
    simp only[hsk]at ih'|-;obtain⟨q1,_,_,_⟩:=LZ hsk
    have e1:accA P i q z=accA P (i+1) q (iOr .i64 z (P.getD i default).al):=by
     unfold accA;rw[bP hk (d:=default),show q-i=(q-(i+1))+1 by omega,Ds,Co]
    rw[e1];generalize P.getD i default=s at *
    simp-implicitDefEqProofs (maxSteps:=9^7) (disch:=try exact Dz) only[↓DN,↓kRet,UP,simprocAttr,↓wO,NE,Ar,Bj,Br,hc,hi0,g,g1,hz2,↓ih',jJ,iX,Tryz.f55]
theorem rO(hn:6<=n)(P:List Sys)(hP:cW P)(hL:2^60<=L):aA env L n 55 [.d (.ivs P.length (sysD P))] []=some (nI (if bQ P=true then parA P else -1),[]):=by
 have hP1:=hP.1;unfold bQ;rw[<-WE]
 by_cases h1:1<=P.length
 ·have h1':(1:Int)<=P.length:=om;have h1'':¬(P.length:Int)<1:=om
  by_cases h3:P.length<=3
  ·have h3':(P.length:Int)<=3:=om;have h3'':¬3<(P.length:Int):=om;have loop_a:=fun {R n k} hn=> @aGQ R L n hn hL P hP h3 k P.length 0 L 0 om om;rw[Ax]at loop_a;simp only[Aw]at loop_a
   cases hs:seek (vV P) P.length 0 with
   |none=>
    simp only[hs,h1,h3,decide_true,Bx,Option.isNone_none,if_true]at loop_a|-;unfold parA;obtain _|n:=n;omega
    simp-implicitDefEqProofs (maxSteps:=9^7) (disch:=try exact Dz) only[↓DN,↓kAsg,↓kRet,UP,simprocAttr,h1'',h3'',↓loop_a,mH,j9,Tryz.f55]
   |some q=>
    simp only[hs,h1,h3,decide_true,Bx,Option.isNone_some,Bool.and_false,Ap,if_false]at loop_a|-;obtain _|n:=n;omega
    simp-implicitDefEqProofs (maxSteps:=9^7) (disch:=try exact Dz) only[↓DN,↓kAsg,↓kRet,UP,simprocAttr,h1'',h3'',↓loop_a,mH,j9,Tryz.f55]
  ·have h3':¬(P.length:Int)<=3:=om;have h3'':3<(P.length:Int):=om;simp only[h1,h3,decide_true,decide_false,Bool.and_false,Dm,Ap,if_false];obtain _|n:=n;omega
   simp-implicitDefEqProofs (maxSteps:=9^7) (disch:=try exact Dz) only[↓DN,↓kAsg,↓kRet,UP,simprocAttr,h1'',h3'',mH,j9,Tryz.f55]
 ·have h1':¬(1:Int)<=P.length:=om;have h1'':(P.length:Int)<1:=om;simp only[h1,decide_false,Dm,Ap,if_false];obtain _|n:=n;omega
  simp-implicitDefEqProofs (maxSteps:=9^7) (disch:=try exact Dz) only[↓DN,↓kAsg,↓kRet,UP,simprocAttr,h1'',mH,j9,Tryz.f55]
theorem rQ:type_of% fun {L} P hP hL=>ks fun hn=> @rO L _ hn P hP hL:=fun {L} P hP hL=>ks fun hn=> @rO L _ hn P hP hL
theorem TB{k:A->Option R}(hn:6<=n)(P:List Sys)(hP:cW P)(hL:2^60<=L):mU (aA env L n) 55 [.d (.ivs P.length (sysD P))] k=k (nI (if bQ P=true then parA P else -1)):=
 oQ (rO hn P hP hL) rfl
end
def vioG(P:List Sys)(b:Aut):List Int×Bool:=if(bQ P&&d9 b.al b.nx b.ac)=true then brkG P b else([],false)
theorem lL{L n:Nat}(hn:15<=n)(P:List Sys)(b:Aut)(hP:cW P)(sb:bN b.nx)(hac:b.ac.length<=4294967296)(hL:2^60<=L):aA env L n 29 [.d (.ivs P.length (sysD P)),.agg [nI b.al,.d (.ivs b.nx.length (aP b.nx)),.d (.ivs b.ac.length (aK b.ac))]] []=some (.tup [.d (.str (txt (vioG P b).1)),.d (.bool (vioG P b).2)],[]):=by
 unfold vioG
 cases hv:bQ P with
 |false=>
  simp only[Dm,Ap,if_false,txt,Al];obtain _|n:=n;omega
  simp-implicitDefEqProofs (maxSteps:=9^7) (disch:=try exact Dz) only[↓DN,↓kAsg,↓kRet,UP,simprocAttr,↓lO,hv,qE,lW,Tryz.f29]
 |true=>
  cases ha:d9 b.al b.nx b.ac with
  |false=>
   simp only[Bool.and_false,Ap,if_false,txt,Al];obtain _|n:=n;omega
   simp-implicitDefEqProofs (maxSteps:=9^7) (disch:=try exact Dz) only[↓DN,↓kAsg,↓kRet,UP,simprocAttr,↓lO,↓bU,hv,ha,qE,lW,Tryz.f29]
  |true=>
   simp only[Bx,if_true];have kl_b:=fun {R:Type} {n:Nat} {k:A->Option R} (hn:14<=n)=>oQ (call:=aA env L n) (k:=k) (f:=82) (@aA0 L n hn hL P hP hv b ha) rfl;have kv_l:=fun {R:Type} {n:Nat} {hq:H} {args:List A} {k:KA R}=>fI (E:=env) (call:=aA env L n) (h:=hq) (k:=k) (args:=args) sI;generalize brkG P b=r at *;obtain _|n:=n;omega
   simp-implicitDefEqProofs (maxSteps:=9^7) (disch:=try exact Dz) only[↓DN,↓kAsg,↓kRet,UP,simprocAttr,↓lO,↓bU,hv,ha,↓kv_l,↓kl_b,qE,lW,Tryz.f29]
theorem SR:type_of% fun {L} P b hP sb hac hL=>ks fun hn=> @lL L _ hn P b hP sb hac hL:=fun {L} P b hP sb hac hL=>ks fun hn=> @lL L _ hn P b hP sb hac hL
theorem R8:type_of% fun {L} P b hP sb hac hL=>kt fun hn=> @lL L _ hn P b hP sb hac hL:=fun {L} P b hP sb hac hL=>kt fun hn=> @lL L _ hn P b hP sb hac hL
theorem AF{L n:Nat}(hn:12<=n)(P:List Sys)(b:Aut)(hP:cW P)(sb:bN b.nx)(hac:b.ac.length<=4294967296)(hL:2^60<=L):aA env L n 30 [.d (.ivs P.length (sysD P)),.agg [nI b.al,.d (.ivs b.nx.length (aP b.nx)),.d (.ivs b.ac.length (aK b.ac))]] []=some (.tup [.d (.str (txt (vioG P b).1)),.d (.bool (vioG P b).2)],[]):=by
 have hP1:=hP.1;unfold vioG
 cases hv:bQ P with
 |false=>
  simp only[Dm,Ap,if_false,txt,Al];obtain _|n:=n;omega
  simp-implicitDefEqProofs (maxSteps:=9^7) (disch:=try exact Dz) only[↓DN,↓kAsg,↓kRet,UP,simprocAttr,↓rQ,hv,qH,lT,Tryz.f30]
 |true=>
  obtain⟨r0,r1⟩:=P0 hv;have r2:¬parA P<0:=om;obtain⟨h3,h1,hs⟩:=dH hv
  cases ha:d9 b.al b.nx b.ac with
  |false=>
   simp only[Bool.and_false,Ap,if_false,txt,Al];obtain _|n:=n;omega
   simp-implicitDefEqProofs (maxSteps:=9^7) (disch:=try exact Dz) only[↓DN,↓kAsg,↓kRet,UP,simprocAttr,↓rQ,↓AC,hv,ha,r2,qH,lT,Tryz.f30]
  |true=>
   simp only[Bx,if_true];have kl_b:=fun {R:Type} {n:Nat} {k:A->Option R} (hn:11<=n)=>oQ (call:=aA env L n) (k:=k) (f:=83) (@aGn L n hn hL P hP hv b ha) rfl;have kv_l:=fun {R:Type} {n:Nat} {hq:H} {args:List A} {k:KA R}=>fI (E:=env) (call:=aA env L n) (h:=hq) (k:=k) (args:=args) A4;have e1:((P.length:Int)+1).toNat=P.length+1:=om;have e2:(0:Int)<=(P.length:Int)+1:=om;have e3:(P.length:Int)+1<=4294967296:=om;have hw1:IntKind.i64.wrap ((P.length:Int)+1)=(P.length:Int)+1:=dM om om;simp only[Dr,Ac,List.length_replicate,jW]at kl_b;generalize brkG P b=r at *;clear hs;obtain _|n:=n;omega
   simp-implicitDefEqProofs (maxSteps:=9^7) (disch:=try exact Dz) only[↓DN,↓kAsg,↓kRet,UP,simprocAttr,↓rQ,↓AC,hv,ha,r2,↓DW,e1,hw1,↓kv_l,↓kl_b,List.length_replicate,qH,lT,Tryz.f30]
theorem SB:type_of% fun {L} P b hP sb hac hL=>ks fun hn=> @AF L _ hn P b hP sb hac hL:=fun {L} P b hP sb hac hL=>ks fun hn=> @AF L _ hn P b hP sb hac hL
def src(c:List UInt8):List UInt8:=if 2000<c.length then c.take 2000 else c
theorem aKQ(c:List UInt8):(src c).length<=2000:=by
 unfold src;split
 ·rw[Cv];omega
 ·omega
theorem aN1:(env.hint 70).mode=2:=kr
theorem aRo{L n:Nat}(hn:1<=n)(c0:List UInt8)(hc:c0.length<=4294967296):aA env L n 70 [.d (.ivs c0.length (a7 c0))] []=some (.ptr 0 0 0,[O.box [A.d (D.ivs (src c0).length (a7 (src c0))),A.d (D.int .i64 0)]]):=by
 unfold src
 by_cases h:(2000:Int)<c0.length
 ·have h':2000<c0.length:=om;obtain _|n:=n;omega
  simp-implicitDefEqProofs (maxSteps:=9^7) (disch:=try exact Dz) only[↓DN,↓kAsg,↓kRet,UP,simprocAttr,h,h',TS,MI,Tryz.f70]
 ·have h':¬2000<c0.length:=om;obtain _|n:=n;omega
  simp-implicitDefEqProofs (maxSteps:=9^7) (disch:=try exact Dz) only[↓DN,↓kAsg,↓kRet,UP,simprocAttr,h,h',TS,MI,Tryz.f70]
theorem aNI{c:List UInt8}(hc:c.length<=2000)(p:Int)(hp:0<=p)(hp2:p<=900000000):∃(x y q:Int),-10<=x/\x<=10/\ -10<=y/\y<=10/\p<=q/\q<=p+6/\(Dw 4 81 [] (.tup [nI x,nI y]) c p q):=by
 obtain⟨x,x0,x1,_,kd1⟩:=cL hc p 4 hp om;obtain⟨y,y0,y1,_,kd2⟩:=cL hc (p+1) 4 om om;obtain⟨u,u0,u1,_,kd3⟩:=cL hc (p+1+1) 16 om om
 by_cases h0:u=0
 ·subst h0;obtain⟨x2,hx2,kd4⟩:=eY hc [5,6,-1] sm sm (p+1+1+1) om om;obtain⟨v,v0,v1,_,kd5⟩:=cL hc (p+1+1+1+1) 16 om om;simp only[ints,Af,Al,Ac,Ab,Ag,Nat.reduceAdd]at kd4
  by_cases h1:v=0
  ·subst h1;obtain⟨y2,hy2,kd6⟩:=eY hc [5,6,-1] sm sm (p+1+1+1+1+1) om om;simp only[ints,Af,Al,Ac,Ab,Ag,Nat.reduceAdd]at kd6;simp at hx2 hy2;refine⟨x2,y2,p+1+1+1+1+1+1,by omega,by omega,by omega,by omega,by omega,by omega,fun R L n hq k hn hL=>aZ PB rfl rfl ?_⟩;obtain _|n:=n;omega
   simp-implicitDefEqProofs (maxSteps:=9^7) (disch:=try exact Dz) only[↓DN,↓kAsg,↓kRet,UP,simprocAttr,↓kd1,↓kd2,↓kd3,↓kd4,↓kd5,↓kd6,BY,zL,Tryz.f81]
  ·simp at hx2;refine⟨x2,y,p+1+1+1+1+1,by omega,by omega,by omega,by omega,by omega,by omega,fun R L n hq k hn hL=>aZ PB rfl rfl ?_⟩;obtain _|n:=n;omega
   simp-implicitDefEqProofs (maxSteps:=9^7) (disch:=try exact Dz) only[↓DN,↓kAsg,↓kRet,UP,simprocAttr,↓kd1,↓kd2,↓kd3,↓kd4,↓kd5,h1,BY,zL,Tryz.f81]
 ·obtain⟨v,v0,v1,_,kd5⟩:=cL hc (p+1+1+1) 16 om om
  by_cases h1:v=0
  ·subst h1;obtain⟨y2,hy2,kd6⟩:=eY hc [5,6,-1] sm sm (p+1+1+1+1) om om;simp only[ints,Af,Al,Ac,Ab,Ag,Nat.reduceAdd]at kd6;simp at hy2;refine⟨x,y2,p+1+1+1+1+1,by omega,by omega,by omega,by omega,by omega,by omega,fun R L n hq k hn hL=>aZ PB rfl rfl ?_⟩;obtain _|n:=n;omega
   simp-implicitDefEqProofs (maxSteps:=9^7) (disch:=try exact Dz) only[↓DN,↓kAsg,↓kRet,UP,simprocAttr,↓kd1,↓kd2,↓kd3,h0,↓kd5,↓kd6,BY,zL,Tryz.f81]
  ·refine⟨x,y,p+1+1+1+1,by omega,by omega,by omega,by omega,by omega,by omega,fun R L n hq k hn hL=>aZ PB rfl rfl ?_⟩;obtain _|n:=n;omega
   simp-implicitDefEqProofs (maxSteps:=9^7) (disch:=try exact Dz) only[↓DN,↓kAsg,↓kRet,UP,simprocAttr,↓kd1,↓kd2,↓kd3,h0,↓kd5,h1,BY,zL,Tryz.f81]
section
def More(c1 c2:aX):Prop:=∀f args h r,c1 f args h=some r->c2 f args h=some r
section
variable{E:Env}{c1 c2:aX}(hc:More c1 c2)
include hc
theorem aDt{hint:FuncId->Hint}{h:H}{f:FuncId}{args:List A}{r:A×H}(he:bV c1 hint h f args=some r):bV c2 hint h f args=some r:=by
 unfold bV at he|-;generalize(hint f).mode=m at *
 have key:∀(fs:List A) (g:Option (A×H)->Option (A×H)),g none=none->g (c1 f fs [])=some r->g (c2 f fs [])=some r:=by
  intro fs g h0 h1
  cases h2:c1 f fs []with
  |none=>rw[h2,h0]at h1;cases h1
  |some q=>rw[h2]at h1;rw[hc _ _ _ _ h2];exact h1
 match m with
 |0=>exact hc _ _ _ _ he
 |1=>
  simp only at he|-
  cases hf:eS h args with
  |none=>rw[hf]at he;cases he
  |some q=>rw[hf]at he;exact key q.1 (fun o=>match o with|some (r,[])=>if iA r then some (r,h)else none|_=>none) rfl he
 |3=>
  simp only at he|-
  cases hf:eS h args with
  |none=>rw[hf]at he;cases he
  |some q=>rw[hf]at he;exact key q.1 (fun o=>match o with|some (r,h2)=>if pE r&&h2.all nJ then some (mapA (back [] h.length h2.length) r,h++h2.map (mapO (back [] h.length h2.length)))else none|none=>none) rfl he
 |2=>
  simp only at he|-
  cases hf:eS h args with
  |none=>rw[hf]at he;cases he
  |some q=>rw[hf]at he;exact key q.1 (fun o=>match o with|some (r,[])=>some (r,q.2)|some (r,h2)=>some (mapA (back [] q.2.length h2.length) r,q.2++h2.map (mapO (back [] q.2.length h2.length)))|none=>none) rfl he
 |m+4=>
  simp only at he|-
  cases hf:eS h args with
  |none=>rw[hf]at he;cases he
  |some q=>rw[hf]at he;exact key q.1 (fun o=>match o with|some (r,[])=>some (r,q.2)|some (r,h2)=>some (mapA (back [] q.2.length h2.length) r,q.2++h2.map (mapO (back [] q.2.length h2.length)))|none=>none) rfl he
theorem aHJ{hint:FuncId->Hint}{h:H}{c:A}{args:List A}{r:A×H}(he:f5 c1 hint h c args=some r):f5 c2 hint h c args=some r:=by
 unfold f5 at he|-
 split at he
 ·exact aDt hc he
 ·exact aDt hc he
 ·cases he
theorem aGo{h:H}{c:Callee}{tys:List TypeId}{vs:List A}{r:A×H}(he:fQ E c1 h c tys vs=some r):fQ E c2 h c tys vs=some r:=by
 unfold fQ at he|-
 split at he
 ·split at he
  ·exact aHJ hc he
  ·cases he
 ·exact he
 ·cases he
theorem LI{thaw:List Nat}{h:H}{o:Oper}{vs:List A}{r:A×H}(he:evOp E c1 thaw h o vs=some r):evOp E c2 thaw h o vs=some r:=by
 unfold evOp at he|-
 split at he<;>first|exact aGo hc he|exact he
theorem aC2{thaw:List Nat}{h:H}{o:Oper}{vs:List A}{r:A×H×List Nat×Nat}(he:jK E c1 thaw h o vs=some r):jK E c2 thaw h o vs=some r:=by
 unfold jK at he|-;simp only at he|-
 split at he
 ·rename_i a h1 h2
  rw[LI hc h2];exact he
 ·cases he
theorem aJw{thaw:List Nat}{ops:List Oper}{o:Oper}{s:List A}{h:H}{r:List A×H}(he:DG E c1 thaw ops o s h=some r):DG E c2 thaw ops o s h=some r:=by
 unfold DG at he|-
 cases hw:qM ops s o with
 |none=>rw[hw]at he;cases he
 |some b=>
  rw[hw]at he
  cases b with
  |false=>exact he
  |true=>
   simp only at he|-
   cases hv:bX s (opds o.op)with
   |none=>rw[hv]at he;cases he
   |some vs=>
    rw[hv]at he;simp only at he|-
    by_cases hi:uO o.op=true
    ·rw[if_pos hi]at he|-
     cases hf:jK E c1 thaw h o vs with
     |none=>rw[hf]at he;cases he
     |some q=>rw[hf]at he;rw[aC2 hc hf];exact he
    ·rw[if_neg hi]at he|-
     cases hf:evOp E c1 thaw h o vs with
     |none=>rw[hf]at he;cases he
     |some q=>rw[hf]at he;rw[LI hc hf];exact he
theorem aDf{thaw:List Nat}{ops:List Oper}:∀ {os:List Oper} {s:List A} {h:H} {r:List A×H},xY E c1 thaw ops os s h=some r->xY E c2 thaw ops os s h=some r
 | [],s,h,r,he=>he
 |o::os,s,h,r,he=>by
  unfold xY at he|-
  cases hs:DG E c1 thaw ops o s h with
  |none=>rw[hs]at he;cases he
  |some q=>rw[hs]at he;rw[aJw hc hs];exact aDf he
theorem aI6{thaw:List Nat}{ops:List Oper}{o:Oper}{s:List A}{h:H}{r:List A×H×Foot}(he:wZ E c1 thaw ops o s h=some r):wZ E c2 thaw ops o s h=some r:=by
 unfold wZ at he|-
 cases hw:qM ops s o with
 |none=>rw[hw]at he;cases he
 |some b=>
  rw[hw]at he
  cases b with
  |false=>exact he
  |true=>
   simp only at he|-
   cases hv:bX s (opds o.op)with
   |none=>rw[hv]at he;cases he
   |some vs=>
    rw[hv]at he;simp only at he|-
    by_cases hi:rL o.op=true
    ·rw[if_pos hi]at he|-
     cases hf:evOp E c1 thaw h o vs with
     |none=>rw[hf]at he;cases he
     |some q=>rw[hf]at he;rw[LI hc hf];exact he
    ·rw[if_neg hi]at he|-
     by_cases hj:tF o.op=true
     ·rw[if_pos hj]at he|-
      cases hf:evOp E c1 thaw h o vs with
      |none=>rw[hf]at he;cases he
      |some q=>rw[hf]at he;rw[LI hc hf];exact he
     rw[if_neg hj]at he|-
     cases hf:jK E c1 thaw h o vs with
     |none=>rw[hf]at he;cases he
     |some q=>rw[hf]at he;rw[aC2 hc hf];exact he
theorem Z5{thaw:List Nat}{ops:List Oper}:∀ {os:List Oper} {s:List A} {h:H} {r:List A×H×List Foot},lD E c1 thaw ops os s h=some r->lD E c2 thaw ops os s h=some r
 | [],s,h,r,he=>he
 |o::os,s,h,r,he=>by
  unfold lD at he|-
  cases hs:wZ E c1 thaw ops o s h with
  |none=>rw[hs]at he;cases he
  |some q=>
   rw[hs]at he;rw[aI6 hc hs];simp only at he|-
   cases h2:lD E c1 thaw ops os q.1 q.2.1 with
   |none=>rw[h2]at he;cases he
   |some z=>rw[h2]at he;rw[Z5 h2];exact he
theorem aGk{thaw:List Nat}{ops:Array Oper}{draw:Bool}{s:List A}{h:H}{r:List A×H}(he:mL E c1 thaw ops draw s h=some r):mL E c2 thaw ops draw s h=some r:=by
 unfold mL at he|-
 by_cases hd:draw=true
 ·rw[if_pos hd]at he|-
  cases ho:lD E c1 thaw ops.toList ops.toList s h with
  |none=>rw[ho]at he;cases he
  |some q=>rw[ho]at he;rw[Z5 hc ho];exact he
 ·rw[if_neg hd]at he|-;exact aDf hc he
end
theorem YW{b1 b2:List A->H->Option (Exit×List A×H)}(hb:∀s h r,b1 s h=some r->b2 s h=some r){nf:Nat}{m:List Bool}:∀ {n1 n2:Nat} {s:List A} {h:H} {r:Exit×List A×H},n1<=n2->r9 b1 nf m n1 s h=some r->r9 b2 nf m n2 s h=some r
 |0,n2,s,h,r,_,he=>by simp[r9]at he
 |n1+1,0,s,h,r,hn,he=>by omega
 |n1+1,n2+1,s,h,r,hn,he=>by
  unfold r9 at he|-
  cases hs:b1 s h with
  |none=>rw[hs]at he;cases he
  |some q=>
   rw[hs]at he;rw[hb _ _ _ hs];obtain⟨e,s1,h1⟩:=q
   cases e with
   |normal=>exact YW hb om he
   |_=>exact he
theorem aKl{E:Env}{c1 c2:aX}(hc:More c1 c2){L1 L2 nf:Nat}(hL:L1<=L2){thaw:List Nat}{live:List Bool}:∀(c:Code) {s:List A} {h:H} {r:Exit×List A×H},bW E c1 L1 nf thaw live c s h=some r->bW E c2 L2 nf thaw live c s h=some r:=by
 intro c
 induction c with
 |region i ops draw=>
  intro s h r he;unfold bW at he|-
  cases hr:mL E c1 thaw ops draw s h with
  |none=>rw[hr]at he;cases he
  |some q=>rw[hr]at he;rw[aGk hc hr];exact he
 |seq a b iha ihb=>
  intro s h r he;unfold bW at he|-
  cases ha:bW E c1 L1 nf thaw live a s h with
  |none=>rw[ha]at he;cases he
  |some q=>
   rw[ha]at he;rw[iha ha];obtain⟨e,s1,h1⟩:=q
   cases e with
   |normal=>exact ihb he
   |_=>exact he
 |cond x a b iha ihb=>
  intro s h r he;unfold bW at he|-
  cases hv:c8 s x with
  |none=>rw[hv]at he;cases he
  |some v=>
   rw[hv]at he
   cases v with
   |d y=>
    cases y with
    |bool b=>
     cases b with
     |true=>exact iha he
     |false=>exact ihb he
    |_=>cases he
   |_=>cases he
 |block i a iha=>
  intro s h r he;unfold bW at he|-
  cases ha:bW E c1 L1 nf thaw live a s h with
  |none=>rw[ha]at he;cases he
  |some q=>rw[ha]at he;rw[iha ha];exact he
 |loop a iha=>
  intro s h r he;unfold bW at he|-;exact YW (fun s h r=>iha) hL he
 |_=>intro s h r he;simp only[bW]at he|-;first|exact he|cases he
theorem aKb{E:Env}{c1 c2:aX}(hc:More c1 c2){L1 L2:Nat}(hL:L1<=L2){f:FuncId}{fn:Func}{c:Code}{args:List A}{h:H}{r:A×H}(he:HU E c1 L1 f fn c args h=some r):HU E c2 L2 f fn c args h=some r:=by
 unfold HU at he|-
 split at he
 ·rename_i e s h1 hcd
  rw[aKl hc hL c hcd];exact he
 ·cases he
theorem aAh{E:Env}{L1 L2:Nat}(hL:L1<=L2):∀ {n1 n2:Nat},n1<=n2->More (aA E L1 n1) (aA E L2 n2)
 |0,n2,_=>by intro f args h r he;simp[aA]at he
 |n1+1,0,hn=>by omega
 |n1+1,n2+1,hn=>by
  intro f args h r he;have ih:=aAh (E:=E) hL (n1:=n1) (n2:=n2) om;unfold aA at he|-
  cases hp:E.prim f with
  |some g=>rw[hp]at he;exact he
  |none=>
   rw[hp]at he;simp only at he|-
   cases hf:E.P.funcs[f]? with
   |none=>rw[hf]at he;cases he
   |some fn=>
    rw[hf]at he;simp only at he|-
    cases hb:fn.body with
    |none=>rw[hb]at he;cases he
    |some c=>
     rw[hb]at he;simp only at he|-
     by_cases hnm : (fn.name == "runtime.NumGoroutine") = true
     ·rw[if_pos hnm]at he;cases he
     ·rw[if_neg hnm]at he|-;exact aKb ih hL he
end
def eE(l:List Edge):Nat:=if l=[]then 0 else 3
theorem aDY{l:List Edge}{x:Edge}:eE (l++[x])=3:=by simp[eE]
theorem aBl(l:List Edge):eE l=0\/eE l=3:=by unfold eE;split<;>simp
theorem WR{c:List UInt8}(hc:c.length<=2000){al st few f i:Int}{ls:List Int}(hi0:0<=i)(hi1:i<ls.length)(hls:ls.length<=6):∀(j:Nat) (t p:Int) (es:List Edge) (len e:Nat) (hlen:len=es.length) (he:e=eE es) (h0:0<=t) (hi:t+j=st) (hst:st<=100) (hl:es.length+j<=100000) (hp:0<=p) (hp2:p+j<=900000000),
  ∃(es2:List Edge) (q:Int),es2.length<=es.length+j/\p<=q/\q<=p+j/\∀(R:Type) (L n m:Nat) (k:KE R),2<=n->2^60<=L->j<m->
  aS env (aA env L n) L 1 [] Bz12 (j4 2) (Z1 (U1 (Z2 (U4 (Z4 (Z2 (U32 (U4 (U2 ([])))))))))) m (.ptr 0 0 0::Y1 (nI st::nI few::Y4 (.ptr 1 0 0::.ptr 2 0 0::.d (.ivs ls.length (ints ls))::nI f::nI i::nI t::Y32 (Y4 (Y2 ([])))))) [rdO c p,.box [nI 0,nI 0,.sl 3 0 0 0],.box [nI al,nI st,.sl 4 0 0 len],.arr [] 0 0,.arr (aJ es) e 0] k
  =k (.exit 4) (.ptr 0 0 0::Y1 (nI st::nI few::Y4 (.ptr 1 0 0::.ptr 2 0 0::.d (.ivs ls.length (ints ls))::nI f::nI i::nI st::Y32 (Y4 (Y2 ([])))))) [rdO c q,.box [nI 0,nI 0,.sl 3 0 0 0],.box [nI al,nI st,.sl 4 0 0 es2.length],.arr [] 0 0,.arr (aJ es2) (eE es2) 0]:=by
 intro j
 induction j with
 |zero=>
  intro t p es len e hlen he h0 hi hst hl hp hp2;obtain rfl:t=st:=om;refine⟨es,p,by omega,by omega,by omega,fun R L n m k hn hL hm=> ?_⟩;obtain _|m:=m;omega;subst hlen;subst he
  simp-implicitDefEqProofs (maxSteps:=9^7) (disch:=try exact Dz) only[↓DN,↓kRet,UP,simprocAttr,Ak,m5,nA,Tryz.f209]
 |succ j ih=>
  intro t p es len e hlen he h0 hi hst hl hp hp2;have hlt:t<st:=om;have hk:i.toNat<ls.length:=om;obtain⟨v,v0,_,_,kd⟩:=cL hc p few hp om;subst hlen
  by_cases hv:v=0
  ·obtain⟨es2,q,g1,g2,g3,kd2⟩:=ih (t+1) (p+1) (es++[⟨f,ls.getD i.toNat 0,t⟩]) (es.length+1) 3 sm aDY.symm om om hst (by simp;omega) om om;refine⟨es2,q,by simp at g1;omega,by omega,by omega,fun R L n m k hn hL hm=> ?_⟩;obtain _|m:=m;omega
   rcases aBl es with h1|h1
   ·have he0:e=0:=om;subst he0
    simp-implicitDefEqProofs (maxSteps:=9^7) (disch:=try exact Dz) only[↓DN,↓kRet,UP,simprocAttr,LE,hlt,↓kd,hv,↓kd2,m5,nA,Tryz.f209]
   ·have he0:e=3:=om;subst he0
    simp-implicitDefEqProofs (maxSteps:=9^7) (disch:=try exact Dz) only[↓DN,↓kRet,UP,simprocAttr,LE,hlt,↓kd,hv,↓kd2,m5,nA,Tryz.f209]
  ·obtain⟨es2,q,g1,g2,g3,kd2⟩:=ih (t+1) (p+1) es es.length e rfl he om om hst om om om;refine⟨es2,q,by omega,by omega,by omega,fun R L n m k hn hL hm=> ?_⟩;obtain _|m:=m;omega
   simp-implicitDefEqProofs (maxSteps:=9^7) (disch:=try exact Dz) only[↓DN,↓kRet,UP,simprocAttr,hlt,↓kd,hv,↓kd2,m5,nA,Tryz.f209]
theorem UJ{c:List UInt8}(hc:c.length<=2000){al st few f:Int}{ls:List Int}(hst0:0<=st)(hst:st<=100)(hls:ls.length<=6):∀(j:Nat) (i p:Int) (es:List Edge) (len e:Nat) (hlen:len=es.length) (he:e=eE es) (h0:0<=i) (hi:i+j=ls.length) (hl:es.length+j*100<=90000) (hp:0<=p) (hp2:p+j*100<=800000000),
  ∃(es2:List Edge) (q:Int),es2.length<=es.length+j*100/\p<=q/\q<=p+j*100/\∀(R:Type) (L n m:Nat) (k:KE R),2<=n->2^60<=L->j<m->
  aS env (aA env L n) L 1 [] Bz12 (j4 1) (Z1 (U1 (Z2 (U4 (Z4 (Z1 (U32 (U4 (U2 (U1 ([]))))))))))) m (.ptr 0 0 0::Y1 (nI st::nI few::Y4 (.ptr 1 0 0::.ptr 2 0 0::.d (.ivs ls.length (ints ls))::nI f::nI i::Y32 (Y4 (Y2 (Y1 ([]))))))) [rdO c p,.box [nI 0,nI 0,.sl 3 0 0 0],.box [nI al,nI st,.sl 4 0 0 len],.arr [] 0 0,.arr (aJ es) e 0] k
  =k (.exit 2) (.ptr 0 0 0::Y1 (nI st::nI few::Y4 (.ptr 1 0 0::.ptr 2 0 0::.d (.ivs ls.length (ints ls))::nI f::nI (ls.length)::Y32 (Y4 (Y2 (Y1 ([]))))))) [rdO c q,.box [nI 0,nI 0,.sl 3 0 0 0],.box [nI al,nI st,.sl 4 0 0 es2.length],.arr [] 0 0,.arr (aJ es2) (eE es2) 0]:=by
 intro j
 induction j with
 |zero=>
  intro i p es len e hlen he h0 hi hl hp hp2;obtain rfl:i=ls.length:=om;refine⟨es,p,by omega,by omega,by omega,fun R L n m k hn hL hm=> ?_⟩;obtain _|m:=m;omega;subst hlen;subst he
  simp-implicitDefEqProofs (maxSteps:=9^7) (disch:=try exact Dz) only[↓DN,↓kRet,UP,simprocAttr,Ak,E1,BL,Tryz.f209]
 |succ j ih=>
  intro i p es len e hlen he h0 hi hl hp hp2;have hlt:i<ls.length:=om;obtain⟨es1,q1,a1,a2,a3,kd⟩:=WR hc (al:=al) (st:=st) (few:=few) (f:=f) (i:=i) (ls:=ls) h0 hlt hls st.toNat 0 p es len e hlen he om om hst om hp om;obtain⟨es2,q,g1,g2,g3,kd2⟩:=ih (i+1) q1 es1 es1.length (eE es1) rfl rfl om om om om om;refine⟨es2,q,by omega,by omega,by omega,fun R L n m k hn hL hm=> ?_⟩;obtain _|m:=m;omega
  simp-implicitDefEqProofs (maxSteps:=9^7) (disch:=try exact Dz) only[↓DN,↓kAsg,↓kRet,UP,simprocAttr,hlt,↓kd,↓kd2,E1,BL,Tryz.f209]
theorem SX{c:List UInt8}(hc:c.length<=2000){al st few:Int}{ls:List Int}(hst0:0<=st)(hst:st<=100)(hls:ls.length<=6):∀(j:Nat) (f p:Int) (es:List Edge) (len e:Nat) (hlen:len=es.length) (he:e=eE es) (h0:0<=f) (hi:f+j=st) (hl:es.length+j*600<=80000) (hp:0<=p) (hp2:p+j*600<=700000000),
  ∃(es2:List Edge) (q:Int),es2.length<=es.length+j*600/\p<=q/\q<=p+j*600/\∀(R:Type) (L n m:Nat) (k:KE R),2<=n->2^60<=L->j<m->
  aS env (aA env L n) L 1 [] Bz12 (j4 0) (Z1 (U1 (Z2 (U4 (Z4 (U32 (U8 ([])))))))) m (.ptr 0 0 0::Y1 (nI st::nI few::Y4 (.ptr 1 0 0::.ptr 2 0 0::.d (.ivs ls.length (ints ls))::nI f::Y32 (Y8 ([]))))) [rdO c p,.box [nI 0,nI 0,.sl 3 0 0 0],.box [nI al,nI st,.sl 4 0 0 len],.arr [] 0 0,.arr (aJ es) e 0] k
  =k (.exit 0) (.ptr 0 0 0::Y1 (nI st::nI few::Y4 (.ptr 1 0 0::.ptr 2 0 0::.d (.ivs ls.length (ints ls))::nI st::Y32 (Y8 ([]))))) [rdO c q,.box [nI 0,nI 0,.sl 3 0 0 0],.box [nI al,nI st,.sl 4 0 0 es2.length],.arr [] 0 0,.arr (aJ es2) (eE es2) 0]:=by
 intro j
 induction j with
 |zero=>
  intro f p es len e hlen he h0 hi hl hp hp2;obtain rfl:f=st:=om;refine⟨es,p,by omega,by omega,by omega,fun R L n m k hn hL hm=> ?_⟩;obtain _|m:=m;omega;subst hlen;subst he
  simp-implicitDefEqProofs (maxSteps:=9^7) (disch:=try exact Dz) only[↓DN,↓kRet,UP,simprocAttr,Ak,E9,BD,Tryz.f209]
 |succ j ih=>
  intro f p es len e hlen he h0 hi hl hp hp2;have hlt:f<st:=om;obtain⟨es1,q1,a1,a2,a3,kd⟩:=UJ hc (al:=al) (st:=st) (few:=few) (f:=f) (ls:=ls) hst0 hst hls ls.length 0 p es len e hlen he om om om hp om;obtain⟨es2,q,g1,g2,g3,kd2⟩:=ih (f+1) q1 es1 es1.length (eE es1) rfl rfl om om om om om;refine⟨es2,q,by omega,by omega,by omega,fun R L n m k hn hL hm=> ?_⟩;obtain _|m:=m;omega
  simp-implicitDefEqProofs (maxSteps:=9^7) (disch:=try exact Dz) only[↓DN,↓kAsg,↓kRet,UP,simprocAttr,hlt,↓kd,↓kd2,E9,BD,Tryz.f209]
theorem aL1:(env.hint 209).mode=0:=kr
theorem YV{c:List UInt8}(hc:c.length<=2000)(al st few:Int)(hst0:0<=st)(hst:st<=100)(p:Int)(hp:0<=p)(hp2:p<=600000000):∃(es:List Edge) (q:Int),es.length<=60000/\p<=q/\q<=p+60000/\(Dw 4 209 [nI al,nI st,nI few] (.agg [nI al,nI st,.d (.ivs es.length (aJ es))]) c p q):=by
 have hll:=dD al;obtain⟨es,q,g1,g2,g3,kd⟩:=SX hc (al:=al) (st:=st) (few:=few) (ls:=aC al) hst0 hst hll st.toNat 0 p [] 0 0 rfl rfl om om (by simp;omega) hp om;simp only[mF]at kd;simp only[Ab,Ag]at g1;refine⟨es,q,by omega,by omega,by omega,fun R L n hq k hn hL=>aZ aL1 rfl rfl ?_⟩
 rcases aBl es with h1|h1
 ·have he0:es=[]:=by unfold eE at h1;split at h1<;>simp_all
  subst he0;obtain _|n:=n;omega
  simp-implicitDefEqProofs (maxSteps:=9^7) (disch:=try exact Dz) only[↓DN,↓kAsg,↓kRet,UP,simprocAttr,↓fL,↓kd,h1,mF,QS,G5,Tryz.f209]
 ·obtain _|n:=n;omega
  simp-implicitDefEqProofs (maxSteps:=9^7) (disch:=try exact Dz) only[↓DN,↓kAsg,↓kRet,UP,simprocAttr,↓fL,LE,↓kd,h1,QS,G5,Tryz.f209]
theorem aGw{c:List UInt8}(hc:c.length<=2000):∀(j:Nat) (i p:Int) (es:List Edge) (len e:Nat) (hlen:len=es.length) (he:e=eE es) (h0:0<=i) (hi:i+j=16) (hl:es.length+j*2<=100) (hp:0<=p) (hp2:p+j*2<=800000000),
  ∃(es2:List Edge) (q:Int),es2.length<=es.length+j*2/\p<=q/\q<=p+j*2/\∀(R:Type) (L n m:Nat) (k:KE R),2<=n->2^60<=L->j<m->
  aS env (aA env L n) L 1 [] Bz70 (O7 0) (Z1 (U1 (Z2 (Z1 (U32 (U2 ([]))))))) m (.ptr 0 0 0::Y1 (.ptr 1 0 0::.ptr 2 0 0::nI i::Y32 (Y2 ([])))) [rdO c p,.box [nI 0,nI 0,.sl 3 0 0 0],.box [nI 3,nI 16,.sl 4 0 0 len],.arr [] 0 0,.arr (aJ es) e 0] k
  =k (.exit 0) (.ptr 0 0 0::Y1 (.ptr 1 0 0::.ptr 2 0 0::nI 16::Y32 (Y2 ([])))) [rdO c q,.box [nI 0,nI 0,.sl 3 0 0 0],.box [nI 3,nI 16,.sl 4 0 0 es2.length],.arr [] 0 0,.arr (aJ es2) (eE es2) 0]:=by
 intro j
 induction j with
 |zero=>
  intro i p es len e hlen he h0 hi hl hp hp2;obtain rfl:i=16:=om;refine⟨es,p,by omega,by omega,by omega,fun R L n m k hn hL hm=> ?_⟩;obtain _|m:=m;omega;subst hlen;subst he
  simp-implicitDefEqProofs (maxSteps:=9^7) (disch:=try exact Dz) only[↓DN,↓kRet,UP,simprocAttr,Ak,nG,pQ,Tryz.f145]
 |succ j ih=>
  intro i p es len e hlen he h0 hi hl hp hp2;have hlt:i<16:=om;obtain⟨v,v0,_,_,kd⟩:=cL hc p 3 hp om;subst hlen
  by_cases hv:v=0
  ·subst hv;obtain⟨u,u0,u1,_,kd1⟩:=cL hc (p+1) 16 om om;obtain⟨es2,q,g1,g2,g3,kd2⟩:=ih (i+1) (p+1+1) (es++[⟨i,0,(i+1).tmod 16⟩]++[⟨i,1,u⟩]) (es.length+1+1) 3 sm aDY.symm om om (by simp;omega) om om;refine⟨es2,q,by simp at g1;omega,by omega,by omega,fun R L n m k hn hL hm=> ?_⟩;obtain _|m:=m;omega
   rcases aBl es with h1|h1
   ·have he0:e=0:=om;subst he0
    simp-implicitDefEqProofs (maxSteps:=9^7) (disch:=try exact Dz) only[↓DN,↓kRet,UP,simprocAttr,LE,hlt,↓kd,↓kd1,↓kd2,nG,pQ,Tryz.f145]
   ·have he0:e=3:=om;subst he0
    simp-implicitDefEqProofs (maxSteps:=9^7) (disch:=try exact Dz) only[↓DN,↓kRet,UP,simprocAttr,LE,hlt,↓kd,↓kd1,↓kd2,nG,pQ,Tryz.f145]
  ·obtain⟨es2,q,g1,g2,g3,kd2⟩:=ih (i+1) (p+1) (es++[⟨i,0,(i+1).tmod 16⟩]) (es.length+1) 3 sm aDY.symm om om (by simp;omega) om om;refine⟨es2,q,by simp at g1;omega,by omega,by omega,fun R L n m k hn hL hm=> ?_⟩;obtain _|m:=m;omega
   rcases aBl es with h1|h1
   ·have he0:e=0:=om;subst he0
    simp-implicitDefEqProofs (maxSteps:=9^7) (disch:=try exact Dz) only[↓DN,↓kRet,UP,simprocAttr,LE,hlt,↓kd,hv,↓kd2,nG,pQ,Tryz.f145]
   ·have he0:e=3:=om;subst he0
    simp-implicitDefEqProofs (maxSteps:=9^7) (disch:=try exact Dz) only[↓DN,↓kRet,UP,simprocAttr,LE,hlt,↓kd,hv,↓kd2,nG,pQ,Tryz.f145]
theorem aRc:(env.hint 145).mode=0:=kr
theorem aPA{c:List UInt8}(hc:c.length<=2000)(p:Int)(hp:0<=p)(hp2:p<=600000000):∃(es:List Edge) (q:Int),es.length<=60000/\p<=q/\q<=p+60000/\(Dw 4 145 [] (.agg [nI 3,nI 16,.d (.ivs es.length (aJ es))]) c p q):=by
 obtain⟨es,q,g1,g2,g3,kd⟩:=aGw hc 16 0 p [] 0 0 rfl rfl om om sm hp om;simp only[mF]at kd;simp only[Ab,Ag]at g1;refine⟨es,q,by omega,by omega,by omega,fun R L n hq k hn hL=>aZ aRc rfl rfl ?_⟩
 rcases aBl es with h1|h1
 ·have he0:es=[]:=by unfold eE at h1;split at h1<;>simp_all
  subst he0;obtain _|n:=n;omega
  simp-implicitDefEqProofs (maxSteps:=9^7) (disch:=try exact Dz) only[↓DN,↓kAsg,↓kRet,UP,simprocAttr,↓kd,h1,mF,aCi,TR,Tryz.f145]
 ·obtain _|n:=n;omega
  simp-implicitDefEqProofs (maxSteps:=9^7) (disch:=try exact Dz) only[↓DN,↓kAsg,↓kRet,UP,simprocAttr,LE,↓kd,h1,aCi,TR,Tryz.f145]
theorem iP:(env.hint 146).mode=0:=kr
theorem aR5{l:List Edge}{k:Nat}{v:Int}(h:k<l.length):List.take (k*3) (aJ l)++[.int .i64 v]++List.drop (k*3+1) (aJ l)=aJ (l.set k ⟨v,(l.getD k default).lt,(l.getD k default).to⟩):=aMf h
theorem aRK{l:List Edge}{k:Nat}{v:Int}(h:k<l.length):List.take (k*3+1) (aJ l)++[.int .i64 v]++List.drop (k*3+1+1) (aJ l)=aJ (l.set k ⟨(l.getD k default).fr,v,(l.getD k default).to⟩):=aMr h
theorem aQS{l:List Edge}{k:Nat}{v:Int}(h:k<l.length):List.take (k*3+2) (aJ l)++[.int .i64 v]++List.drop (k*3+2+1) (aJ l)=aJ (l.set k ⟨(l.getD k default).fr,(l.getD k default).lt,v⟩):=aMa h
theorem GC{c:List UInt8}(hc:c.length<=2000)(al st:Int)(es:List Edge)(hes:es.length<=70000)(p:Int)(hp:0<=p)(hp2:p<=600000000):∃(al2 st2:Int) (es2:List Edge) (q:Int),es2.length<=es.length+1/\p<=q/\q<=p+60000/\(Dw 4 146 [.agg [nI al,nI st,.d (.ivs es.length (aJ es))]] (.agg [nI al2,nI st2,.d (.ivs es2.length (aJ es2))]) c p q):=by
 obtain⟨u,u0,u1,u2,kd⟩:=cL hc p es.length hp om;obtain⟨v,v0,v1,_,kd1⟩:=cL hc (p+1) 30 om om;have het:(aJ es).take (es.length*3)=aJ es:=kG (Ad _)
 by_cases w0:v=0
 ·subst w0;obtain⟨x,hx,kd2⟩:=eY hc [64,-1,1,63] sm sm (p+1+1) om om;simp only[ints,Af,Al,Ac,Ab,Ag,Nat.reduceAdd]at kd2;refine⟨x,st,es,p+1+1+1,by omega,by omega,by omega,fun R L n hq k hn hL=>aZ iP rfl rfl ?_⟩;obtain _|n:=n;omega
  simp-implicitDefEqProofs (maxSteps:=9^7) (disch:=try exact Dz) only[↓DN,↓kRet,UP,simprocAttr,LE,↓kd,↓kd1,↓kd2,het,eB,eD,Tryz.f146]
 by_cases w1:v=1
 ·subst w1;obtain⟨x,hx,kd2⟩:=eY hc [0,17,-1,16,1] sm sm (p+1+1) om om;simp only[ints,Af,Al,Ac,Ab,Ag,Nat.reduceAdd]at kd2;refine⟨al,x,es,p+1+1+1,by omega,by omega,by omega,fun R L n hq k hn hL=>aZ iP rfl rfl ?_⟩;obtain _|n:=n;omega
  simp-implicitDefEqProofs (maxSteps:=9^7) (disch:=try exact Dz) only[↓DN,↓kRet,UP,simprocAttr,LE,↓kd,↓kd1,↓kd2,het,eB,eD,Tryz.f146]
 by_cases w2:v=2
 ·subst w2
  by_cases hpos:(0:Int)<es.length
  ·have hu:u<es.length:=u1 om;have hk:u.toNat<es.length:=om;obtain⟨x,hx,kd2⟩:=eY hc [-1,16,0,2] sm sm (p+1+1) om om;simp only[ints,Af,Al,Ac,Ab,Ag,Nat.reduceAdd]at kd2;have hsl:(es.set u.toNat ⟨x,(es.getD u.toNat default).lt,(es.getD u.toNat default).to⟩).length=es.length:=sm;have hst:(aJ (es.set u.toNat ⟨x,(es.getD u.toNat default).lt,(es.getD u.toNat default).to⟩)).take (es.length*3)=aJ (es.set u.toNat ⟨x,(es.getD u.toNat default).lt,(es.getD u.toNat default).to⟩):=kG om;refine⟨al,st,es.set u.toNat ⟨x,(es.getD u.toNat default).lt,(es.getD u.toNat default).to⟩,p+1+1+1,by omega,by omega,by omega,fun R L n hq k hn hL=>aZ iP rfl rfl ?_⟩;rw[hsl];obtain _|n:=n;omega
   simp-implicitDefEqProofs (maxSteps:=9^7) (disch:=try exact Dz) only[↓DN,↓kRet,UP,simprocAttr,LE,↓kd,↓kd1,↓kd2,hpos,hu,aR5,hst,eB,eD,Tryz.f146]
  ·refine⟨al,st,es,p+1+1,by omega,by omega,by omega,fun R L n hq k hn hL=>aZ iP rfl rfl ?_⟩;obtain _|n:=n;omega
   simp-implicitDefEqProofs (maxSteps:=9^7) (disch:=try exact Dz) only[↓DN,↓kRet,UP,simprocAttr,LE,↓kd,↓kd1,het,hpos,eB,eD,Tryz.f146]
 by_cases w3:v=3
 ·subst w3
  by_cases hpos:(0:Int)<es.length
  ·have hu:u<es.length:=u1 om;have hk:u.toNat<es.length:=om;obtain⟨x,hx,kd2⟩:=eY hc [-1,16,0,3] sm sm (p+1+1) om om;simp only[ints,Af,Al,Ac,Ab,Ag,Nat.reduceAdd]at kd2;have hsl:(es.set u.toNat ⟨(es.getD u.toNat default).fr,(es.getD u.toNat default).lt,x⟩).length=es.length:=sm;have hst:(aJ (es.set u.toNat ⟨(es.getD u.toNat default).fr,(es.getD u.toNat default).lt,x⟩)).take (es.length*3)=aJ (es.set u.toNat ⟨(es.getD u.toNat default).fr,(es.getD u.toNat default).lt,x⟩):=kG om;refine⟨al,st,es.set u.toNat ⟨(es.getD u.toNat default).fr,(es.getD u.toNat default).lt,x⟩,p+1+1+1,by omega,by omega,by omega,fun R L n hq k hn hL=>aZ iP rfl rfl ?_⟩;rw[hsl];obtain _|n:=n;omega
   simp-implicitDefEqProofs (maxSteps:=9^7) (disch:=try exact Dz) only[↓DN,↓kRet,UP,simprocAttr,LE,↓kd,↓kd1,↓kd2,hpos,hu,aQS,hst,eB,eD,Tryz.f146]
  ·refine⟨al,st,es,p+1+1,by omega,by omega,by omega,fun R L n hq k hn hL=>aZ iP rfl rfl ?_⟩;obtain _|n:=n;omega
   simp-implicitDefEqProofs (maxSteps:=9^7) (disch:=try exact Dz) only[↓DN,↓kRet,UP,simprocAttr,LE,↓kd,↓kd1,het,hpos,eB,eD,Tryz.f146]
 by_cases w4:v=4
 ·subst w4
  by_cases hpos:(0:Int)<es.length
  ·have hu:u<es.length:=u1 om;have hk:u.toNat<es.length:=om;obtain⟨x,hx,kd2⟩:=eY hc [-1,6,70,5,0] sm sm (p+1+1) om om;simp only[ints,Af,Al,Ac,Ab,Ag,Nat.reduceAdd]at kd2;have hsl:(es.set u.toNat ⟨(es.getD u.toNat default).fr,x,(es.getD u.toNat default).to⟩).length=es.length:=sm;have hst:(aJ (es.set u.toNat ⟨(es.getD u.toNat default).fr,x,(es.getD u.toNat default).to⟩)).take (es.length*3)=aJ (es.set u.toNat ⟨(es.getD u.toNat default).fr,x,(es.getD u.toNat default).to⟩):=kG om;refine⟨al,st,es.set u.toNat ⟨(es.getD u.toNat default).fr,x,(es.getD u.toNat default).to⟩,p+1+1+1,by omega,by omega,by omega,fun R L n hq k hn hL=>aZ iP rfl rfl ?_⟩;rw[hsl];obtain _|n:=n;omega
   simp-implicitDefEqProofs (maxSteps:=9^7) (disch:=try exact Dz) only[↓DN,↓kRet,UP,simprocAttr,LE,↓kd,↓kd1,↓kd2,hpos,hu,aRK,hst,eB,eD,Tryz.f146]
  ·refine⟨al,st,es,p+1+1,by omega,by omega,by omega,fun R L n hq k hn hL=>aZ iP rfl rfl ?_⟩;obtain _|n:=n;omega
   simp-implicitDefEqProofs (maxSteps:=9^7) (disch:=try exact Dz) only[↓DN,↓kRet,UP,simprocAttr,LE,↓kd,↓kd1,het,hpos,eB,eD,Tryz.f146]
 by_cases w5:v=5
 ·subst w5
  by_cases hpos:(0:Int)<es.length
  ·have hu:u<es.length:=u1 om;have hk:u.toNat<es.length:=om;have hst:(aJ (es++[es.getD u.toNat default])).take ((es.length+1)*3)=aJ (es++[es.getD u.toNat default]):=kG sm;refine⟨al,st,es++[es.getD u.toNat default],p+1+1,by rw[Ai,Ci];omega,by omega,by omega,fun R L n hq k hn hL=>aZ iP rfl rfl ?_⟩;obtain _|n:=n;omega
   simp-implicitDefEqProofs (maxSteps:=9^7) (disch:=try exact Dz) only[↓DN,↓kRet,UP,simprocAttr,LE,↓kd,↓kd1,het,hpos,hu,hst,eB,eD,Tryz.f146]
  ·refine⟨al,st,es,p+1+1,by omega,by omega,by omega,fun R L n hq k hn hL=>aZ iP rfl rfl ?_⟩;obtain _|n:=n;omega
   simp-implicitDefEqProofs (maxSteps:=9^7) (disch:=try exact Dz) only[↓DN,↓kRet,UP,simprocAttr,LE,↓kd,↓kd1,het,hpos,eB,eD,Tryz.f146]
 by_cases w6:v=6
 ·subst w6;obtain⟨x,x0,_,_,kd2⟩:=cL hc (p+1+1) 4 om om;obtain⟨y,y0,_,_,kd3⟩:=cL hc (p+1+1+1) 3 om om;obtain⟨z,z0,_,_,kd4⟩:=cL hc (p+1+1+1+1) 4 om om;have hst:(aJ (es++[⟨x,y,z⟩])).take ((es.length+1)*3)=aJ (es++[⟨x,y,z⟩]):=kG sm;refine⟨al,st,es++[⟨x,y,z⟩],p+1+1+1+1+1,by rw[Ai,Ci];omega,by omega,by omega,fun R L n hq k hn hL=>aZ iP rfl rfl ?_⟩;obtain _|n:=n;omega
  simp-implicitDefEqProofs (maxSteps:=9^7) (disch:=try exact Dz) only[↓DN,↓kRet,UP,simprocAttr,LE,↓kd,↓kd1,↓kd2,↓kd3,↓kd4,het,hst,eB,eD,Tryz.f146]
 refine⟨al,st,es,p+1+1,by omega,by omega,by omega,fun R L n hq k hn hL=>aZ iP rfl rfl ?_⟩;obtain _|n:=n;omega
 simp-implicitDefEqProofs (maxSteps:=9^7) (disch:=try exact Dz) only[↓DN,↓kRet,UP,simprocAttr,LE,↓kd,↓kd1,het,w0,w1,w2,w3,w4,w5,w6,eB,eD,Tryz.f146]
end Ev
end Go.Proofs.YtahbdkmimmnadaaGreatDoor
