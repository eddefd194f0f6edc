/-
  Products as the reference searches them, walked: distances, nodes that are bE.
-/
import Derived.Test.YthlkcebdfbjdoaaGreatNetT
import Derived.Test.YthlkcebdfbjdoaaGreatRead
import Derived.Test.YthlkcebdfbjdoaaGreatDraw2
import Derived.Test.YthlkcebdfbjdoaaGreatSuiteL
set_option linter.unusedSimpArgs false
set_option linter.unusedVariables false
set_option maxRecDepth 8000
set_option maxHeartbeats 4000000
namespace Go.Proofs.YthlkcebdfbjdoaaGreat
namespace Ev
section
variable{R:Type}{L n:Nat}
def AL(tab:List (List (List Int)))(aM:Nat):Prop:=tab.length=aM/\∀i,i<aM->(tab.getD i []).length<=1000/\∀r∈tab.getD i [],r.length<=4294967290/\∀x∈r,0<=x/\x<aM
theorem aCi(hn:3<=n)(hL:2^60<=L){tab:List (List (List Int))}{aM:Nat}{d:Int}(ht:AL tab aM)(htt:aM<=16777216)(hd:1<=d)(hd2:d<=4294967296){k:KE R}:∀(j i m:Nat) (q:List Int) (b:Bool) (len:Nat) (hi:i+j=aM) (hm:j<m) (hq:q.length=aM) (hlen:len=aM),
  aS env (aA env L n) L 1 [] Bz19 (oZ 1) (Z2 (U2 (Z2 (Z1 (U16 (U8 (U4 ([])))))))) m (.d (.ivs tab.length (tabD tab))::.sl 0 0 0 len::Y2 (.d (.bool b)::nI d::nI i::Y16 (Y8 (Y4 ([]))))) [.arr (ints q) 1 0] k
  =k (.exit 2) (.d (.ivs tab.length (tabD tab))::.sl 0 0 0 len::Y2 (.d (.bool (((dD tab d j i (q,b)).2)))::nI d::nI aM::Y16 (Y8 (Y4 ([]))))) [.arr (ints (dD tab d j i (q,b)).1) 1 0]:=by
 obtain⟨tl,ht⟩:=ht;intro j
 induction j with
 |zero=>
  intro i m q b len hi hm hq hlen;obtain _|m:=m;omega;obtain rfl:i=aM:=om;subst hlen
  simp-implicitDefEqProofs (maxSteps:=9^7) (disch:=try exact Dz) only[↓DN,↓kRet,UP,simprocAttr,Aj,pQ,qX,Tryz.f133]<;>rfl
 |succ j ih=>
  intro i m q b len hi hm hq hlen;obtain _|m:=m;omega;subst hlen;have hk:i<q.length:=om;have hkt:i<tab.length:=om;have hc:(i:Int)<len:=om;have hi0:(0:Int)<=i:=om;obtain⟨t1,t2⟩:=ht i om;have kl_n:=@aI1 L (tab.getD i []) q (d-1) om (by rw[hq];exact t2) om hL;rw[hq]at kl_n;simp only[dD]
  by_cases h1:q.getD i 0<0
  ·by_cases h2:H6 (tab.getD i []) q (d-1)=true
   ·have ih':=ih (i+1) m (q.set i d) true len om om (by simpa using hq) rfl;rw[cs1 i]at ih';rw[if_pos ⟨h1,h2⟩];clear ih;rw[h2]at kl_n
    simp-implicitDefEqProofs (maxSteps:=9^7) (disch:=try exact Dz) only[↓DN,↓kAsg,↓kRet,UP,simprocAttr,↓PO,TE,hc,hi0,h1,↓kl_n,↓VP,↓ih',pQ,qX,Tryz.f133]
   ·have ih':=ih (i+1) m q b len om om hq rfl;rw[cs1 i]at ih';rw[if_neg fun h=>h2 h.2];clear ih;rw[Bool.not_eq_true]at h2;rw[h2]at kl_n
    simp-implicitDefEqProofs (maxSteps:=9^7) (disch:=try exact Dz) only[↓DN,↓kRet,UP,simprocAttr,↓PO,TE,hc,hi0,h1,↓kl_n,↓ih',pQ,qX,Tryz.f133]
  ·have ih':=ih (i+1) m q b len om om hq rfl;rw[cs1 i]at ih';rw[if_neg fun h=>h1 h.1];clear ih kl_n
   simp-implicitDefEqProofs (maxSteps:=9^7) (disch:=try exact Dz) only[↓DN,↓kRet,UP,simprocAttr,hc,hi0,h1,↓ih',pQ,qX,Tryz.f133]
def dEnd(tab:List (List (List Int))):Nat->Int->List Int->Int
 |0,d,_=>d
 |j+1,d,dist=>if(dD tab d dist.length 0 (dist,false)).2=true then dEnd tab j (d+1) (dD tab d dist.length 0 (dist,false)).1 else d+1
theorem KX{tab:List (List (List Int))}{d:Int}:∀(j i:Nat) (q:List Int×Bool),(dD tab d j i q).1.length=q.1.length
 |0,_,q=>rfl
 |j+1,i,q=>by
  simp only[dD]
  split
  ·rw[KX j];simp
  ·exact KX j _ q
theorem aAQ{R:Type}{L n m tt len:Nat}{tab:List (List (List Int))}{d:Int}{h:List Int}{k:KE R}:
  aS env (aA env L n) L 1 [] Bz19 (oZ 0) Bz46 (m+1) (.d (.ivs tt (tabD tab))::.sl 0 0 0 len::Y2 (.d (.bool false)::nI d::Y16 (Y8 (Y4 (Y1 ([])))))) [.arr (ints h) 1 0] k
  =k (.exit 0) (.d (.ivs tt (tabD tab))::.sl 0 0 0 len::Y2 (.d (.bool false)::nI d::Y16 (Y8 (Y4 (Y1 ([])))))) [.arr (ints h) 1 0]:=by
 simp-implicitDefEqProofs (maxSteps:=9^7) (disch:=try exact Dz) only[↓DN,UP,simprocAttr,yG,x5,Tryz.f133]
theorem aB6(hn:3<=n)(hL:2^60<=L){tab:List (List (List Int))}{aM:Nat}(ht:AL tab aM)(htt:aM<=16777216){k:KE R}:∀(j:Nat) (d:Int) (m:Nat) (q:List Int) (len:Nat) (hc:q.countP (·<0)<j) (hm:j<m) (hd:1<=d) (hd2:d+j<=4294967296) (hq:q.length=aM) (hlen:len=aM),
  aS env (aA env L n) L 1 [] Bz19 (oZ 0) Bz46 m (.d (.ivs tab.length (tabD tab))::.sl 0 0 0 len::Y2 (.d (.bool true)::nI d::Y16 (Y8 (Y4 (Y1 ([])))))) [.arr (ints q) 1 0] k
  =k (.exit 0) (.d (.ivs tab.length (tabD tab))::.sl 0 0 0 len::Y2 (.d (.bool false)::nI (dEnd tab j d q)::Y16 (Y8 (Y4 (Y1 ([])))))) [.arr (ints (c8 tab j d q)) 1 0]:=by
 intro j
 induction j with
 |zero=>intro d m q len hc;omega
 |succ j ih=>
  intro d m q len hc hm hd hd2 hq hlen;obtain _|m:=m;omega;subst hlen;have loop_c:=fun {R n k} hn=> @aCi R L n hn hL tab len d ht htt hd om k len 0 L q false len om om hq rfl;simp only[Aq]at loop_c;have hcnt:=VO (tab:=tab) (d:=d) om len 0 (q,false) (by simp;omega);have hlen2:=KX (tab:=tab) (d:=d) len 0 (q,false);simp only[c8,dEnd,hq];generalize dD tab d len 0 (q,false)=r at *;obtain⟨r0,r1⟩:=r;simp only at loop_c hcnt hlen2|-
  cases r1 with
  |true=>
   have hlt:r0.countP (·<0)<q.countP (·<0):=by
    rcases hcnt.2 rfl with h|h
    ·cases h
    ·exact h
   have ih':=ih (d+1) m r0 len om om om om om rfl;simp only[if_true];clear ih hcnt
   simp-implicitDefEqProofs (maxSteps:=9^7) (disch:=try exact Dz) only[↓DN,↓kAsg,↓kRet,UP,simprocAttr,↓loop_c,↓ih',yG,x5,Tryz.f133]
  |false=>
   simp only[Ak,if_false];clear ih hcnt;obtain _|m:=m;omega;have loop_e:=fun {d:Int} {h:List Int}=> @aAQ R L n m tab.length len tab d h k
   simp-implicitDefEqProofs (maxSteps:=9^7) (disch:=try exact Dz) only[↓DN,↓kAsg,↓kRet,UP,simprocAttr,↓loop_c,↓loop_e,yG,x5,Tryz.f133]
theorem aIG(hn:4<=n)(hL:2^60<=L){tab:List (List (List Int))}{aM:Nat}(ht:AL tab aM)(htt:aM<=16777216)(dist:List Int)(hd:dist.length=aM):
  aA env L n 133 [.d (.ivs tab.length (tabD tab)),.sl 0 0 0 dist.length] [.arr (ints dist) 1 0]=some (.tup [],[.arr (ints (c8 tab (aM+1) 1 dist)) 1 0]):=by
 have hcl:dist.countP (·<0)<aM+1:=by have:=List.countP_le_length (p:=(·<0)) (l:=dist);omega
 have loop_c:=fun {R n k} hn=> @aB6 R L n hn hL tab aM ht htt k (aM+1) 1 L dist aM hcl om om om hd rfl;rw[hd];generalize c8 tab (aM+1) 1 dist=w at *;obtain _|n:=n;omega
 simp-implicitDefEqProofs (maxSteps:=9^7) (disch:=try exact Dz) only[↓DN,↓kAsg,UP,simprocAttr,↓loop_c,aIP,aBm,Tryz.f133]
theorem V8(hn:3<=n)(hL:2^60<=L){tab:List (List (List Int))}{dist at_ list:List Int}{d kk:Int}{ii:Nat}(hdl:dist.length<=16777216)(hll:list.length<=4294967290)(hr:∀x∈list,0<=x/\x<dist.length){k:KE R}:∀(j p m:Nat) (o:List Int) (len:Nat) (hp:p+j=list.length) (hm:j<m) (hlen:len=o.length) (ho:o.length+j<=4294967290),
  aS env (aA env L n) L 0 [] Bz22 (oM 1) (Z4 (Z1 (U4 (U1 (Z4 (Z1 (U32 (U16 (U1 ([])))))))))) m (.d (.ivs tab.length (tabD tab))::.d (.ivs dist.length (ints dist))::.d (.ivs at_.length (ints at_))::nI kk::nI d::Y4 (Y1 (.d .nils::.sl 0 0 0 len::nI ii::.d (.ivs list.length (ints list))::nI p::Y32 (Y16 (Y1 ([])))))) [.arr (ints o) 1 0] k
  =k (.exit 2) (.d (.ivs tab.length (tabD tab))::.d (.ivs dist.length (ints dist))::.d (.ivs at_.length (ints at_))::nI kk::nI d::Y4 (Y1 (.d .nils::.sl 0 0 0 (addC dist d (list.drop p) o).length::nI ii::.d (.ivs list.length (ints list))::nI (list.length)::Y32 (Y16 (Y1 ([])))))) [.arr (ints (addC dist d (list.drop p) o)) 1 0]:=by
 intro j
 induction j with
 |zero=>
  intro p m o len hp hm hlen ho;obtain _|m:=m;omega;obtain rfl:p=list.length:=om;subst hlen
  simp-implicitDefEqProofs (maxSteps:=9^7) (disch:=try exact Dz) only[↓DN,↓kRet,UP,simprocAttr,Aj,mF,mZ,Tryz.f135];simp[addC]
 |succ j ih=>
  intro p m o len hp hm hlen ho;obtain _|m:=m;omega;subst hlen;have hk:p<list.length:=om;have hc:(p:Int)<list.length:=om;have hp0:(0:Int)<=p:=om;obtain⟨r0,r1⟩:=hr _ (kK hk);have hk2:(list.getD p 0).toNat<dist.length:=om;rw[b7 hk (d:=0)];simp only[addC]
  by_cases h1:dist.getD (list.getD p 0).toNat 0=d
  ·have kl_i:=@aEq L o (list.getD p 0) om hL
   by_cases h2:list.getD p 0∈o
   ·have ih':=ih (p+1) m o o.length om om rfl om;rw[cs1 p]at ih';rw[if_neg fun h=>h.2 h2];clear ih;rw[decide_eq_true h2]at kl_i
    simp-implicitDefEqProofs (maxSteps:=9^7) (disch:=try exact Dz) only[↓DN,↓kRet,UP,simprocAttr,↓AH,hc,hp0,h1,↓kl_i,r0,r1,↓ih',mF,mZ,Tryz.f135]
   ·have ih':=ih (p+1) m (o++[list.getD p 0]) (o.length+1) om om sm (by rw[Af,Co];omega);rw[cs1 p]at ih';rw[if_pos ⟨h1,h2⟩];clear ih;rw[decide_eq_false h2]at kl_i
    simp-implicitDefEqProofs (maxSteps:=9^7) (disch:=try exact Dz) only[↓DN,↓kRet,UP,simprocAttr,↓AH,hc,hp0,h1,↓kl_i,r0,r1,↓ih',mF,mZ,Tryz.f135]
  ·have ih':=ih (p+1) m o o.length om om rfl om;rw[cs1 p]at ih';rw[if_neg fun h=>h1 h.1];clear ih
   simp-implicitDefEqProofs (maxSteps:=9^7) (disch:=try exact Dz) only[↓DN,↓kRet,UP,simprocAttr,hc,hp0,h1,r0,r1,↓ih',mF,mZ,Tryz.f135]
theorem YZ{dist:List Int}{d:Int}:∀(ms out:List Int),(addC dist d ms out).length<=out.length+ms.length
 | [],out=>by simp[addC]
 |m::ms,out=>by
  unfold addC
  split
  ·have:=YZ (dist:=dist) (d:=d) ms (out++[m]);simp at this|-;omega
  ·have:=YZ (dist:=dist) (d:=d) ms out;simp at this|-;omega
theorem V2(hn:3<=n)(hL:2^60<=L){tab:List (List (List Int))}{dist at_:List Int}{d:Int}{kk aM:Nat}(ht:AL tab aM)(hd:dist.length=aM)(htt:aM<=16777216)(hat:at_.length<=16777216)(har:∀x∈at_,0<=x/\x<aM)(hkk:∀i,i<aM->kk<(tab.getD i []).length/\((tab.getD i []).getD kk []).length<=64){k:KE R}:∀(j i m:Nat) (o:List Int) (len:Nat) (hp:i+j=at_.length) (hm:j<m) (hlen:len=o.length) (ho:o.length+j*64<=2147483648),
  aS env (aA env L n) L 0 [] Bz22 (oM 0) (Z4 (Z1 (U4 (U1 (Z2 (Z1 (U32 (U16 (U2 (U1 ([]))))))))))) m (.d (.ivs tab.length (tabD tab))::.d (.ivs dist.length (ints dist))::.d (.ivs at_.length (ints at_))::nI kk::nI d::Y4 (Y1 (.d .nils::.sl 0 0 0 len::nI i::Y32 (Y16 (Y2 (Y1 ([]))))))) [.arr (ints o) 1 0] k
  =k (.exit 0) (.d (.ivs tab.length (tabD tab))::.d (.ivs dist.length (ints dist))::.d (.ivs at_.length (ints at_))::nI kk::nI d::Y4 (Y1 (.d .nils::.sl 0 0 0 (bE tab dist kk d (at_.drop i) o).length::nI (at_.length)::Y32 (Y16 (Y2 (Y1 ([]))))))) [.arr (ints (bE tab dist kk d (at_.drop i) o)) 1 0]:=by
 obtain⟨tl,ht⟩:=ht;intro j
 induction j with
 |zero=>
  intro i m o len hp hm hlen ho;obtain _|m:=m;omega;obtain rfl:i=at_.length:=om;subst hlen
  simp-implicitDefEqProofs (maxSteps:=9^7) (disch:=try exact Dz) only[↓DN,↓kRet,UP,simprocAttr,Aj,DQ,z8,Tryz.f135];simp[bE]
 |succ j ih=>
  intro i m o len hp hm hlen ho;obtain _|m:=m;omega;subst hlen;have hk:i<at_.length:=om;have hc:(i:Int)<at_.length:=om;have hi0:(0:Int)<=i:=om;obtain⟨r0,r1⟩:=har _ (kK hk);have hk2:(at_.getD i 0).toNat<tab.length:=om;have hc2:at_.getD i 0<tab.length:=om;obtain⟨q1,q2⟩:=hkk (at_.getD i 0).toNat om;obtain⟨t1,t2⟩:=ht (at_.getD i 0).toNat om;have hc3:(kk:Int)<(tab.getD (at_.getD i 0).toNat []).length:=om;have hkk0:(0:Int)<=kk:=om
  have t3:=t2 ((tab.getD (at_.getD i 0).toNat []).getD kk []) (by
   rw[Aa (l:=tab.getD (at_.getD i 0).toNat []),Ae q1];exact Az q1)
  rw[b7 hk (d:=0)];simp only[bE];generalize hrow:tab.getD (at_.getD i 0).toNat []=row at *;generalize hli:row.getD kk []=li at *;rw[Nat.succ_mul]at ho;have loop_c:=fun {R n k} hn=> @V8 R L n hn hL tab dist at_ li d kk i om om (by rw[hd];exact t3.2) k li.length 0 L o o.length om om rfl om;simp only[Bc,Aq]at loop_c;have hal:=YZ (dist:=dist) (d:=d) li o;have ih':=ih (i+1) m (addC dist d li o) _ om om rfl om;rw[cs1 i]at ih';clear ih hkk ht t2 t3;generalize addC dist d li o=w at *
  simp-implicitDefEqProofs (maxSteps:=9^7) (disch:=try exact Dz) only[↓DN,↓kAsg,↓kRet,UP,simprocAttr,TE,LA,hc,hi0,hc2,r0,hc3,hkk0,hrow,hli,↓loop_c,↓ih',DQ,z8,Tryz.f135]
theorem uJ(hn:4<=n)(hL:2^60<=L){tab:List (List (List Int))}{dist at_:List Int}{d:Int}{kk aM:Nat}(ht:AL tab aM)(hd:dist.length=aM)(htt:aM<=16777216)(hat:at_.length<=16777216)(har:∀x∈at_,0<=x/\x<aM)(hkk:∀i,i<aM->kk<(tab.getD i []).length/\((tab.getD i []).getD kk []).length<=64):
  aA env L n 135 [.d (.ivs tab.length (tabD tab)),.d (.ivs dist.length (ints dist)),.d (.ivs at_.length (ints at_)),nI kk,nI d] []=some (.d (.ivs (bE tab dist kk d at_ []).length (ints (bE tab dist kk d at_ []))),[]):=by
 have loop_c:=fun {R n k} hn=> @V2 R L n hn hL tab dist at_ d kk aM ht hd htt hat har hkk k at_.length 0 L [] 0 om om rfl (by simp;omega);simp only[Bc,Aq,nR]at loop_c;generalize bE tab dist kk d at_ []=w at *;have e4:(ints w).take w.length=ints w:=dX (Ab _);clear hkk har ht;obtain _|n:=n;omega
 simp-implicitDefEqProofs (maxSteps:=9^7) (disch:=try exact Dz) only[↓DN,↓kAsg,↓kRet,UP,simprocAttr,↓loop_c,e4,aFs,QT,Tryz.f135]
end
section
variable{R:Type}{L n:Nat}
structure OkN(N:Net)(states:List Int)(i:Nat):Prop where
 hi:i<N.us.length
 hs:N.ps.length+i<states.length
 ha:(N.us.getD i default).ac.length<=4294967290
 q0:0<=states.getD (N.ps.length+i) 0
 q1:states.getD (N.ps.length+i) 0<(N.us.getD i default).ac.length
theorem aGb(hn:2<=n)(N:Net)(states:List Int)(mvs:List (List Int))(hk:N.kind=0\/N.kind=1\/N.kind=2\/N.kind=3)(h1:N.ps.length<=1000)(h2:N.us.length<=1000)(hs2:states.length<=4000)(ho:OkN N states 0)(ho2:N.kind=1\/N.kind=2->OkN N states 1)(hL:2^60<=L):aA env L n 131 [.agg [.d (.ivs N.ps.length (sysD N.ps)),.d (.ivs N.us.length (fV N.us)),.d (.ivs N.start.length (ints N.start)),nI N.ls,nI N.kind,nI N.goal],.d (.ivs states.length (ints states)),.d (.ivs mvs.length (aL mvs))] []=some (.d (.bool (LF N states mvs)),[]):=by
 have kc_a:=fun {R n hq k} hn=> @aEe R L n hq k hn N states 0 ho.hi h1 h2 ho.hs hs2 ho.ha ho.q0 ho.q1 hL;simp only[Aq]at kc_a;have kc_b:=fun(hx:OkN N states 1) {R:Type} {n:Nat} {hq:H} {k:KA R} (hn:1<=n)=> @aEe R L n hq k hn N states 1 hx.hi h1 h2 hx.hs hs2 hx.ha hx.q0 hx.q1 hL;simp only[show((1:Nat):Int)=1 from rfl]at kc_b;unfold LF
 rcases hk with hk|hk|hk|hk
 ·rw[hk]at kc_a|-;clear kc_b ho2;generalize okN N states 0=b0 at *;obtain _|n:=n;omega
  simp-implicitDefEqProofs (maxSteps:=9^7) (disch:=try exact Dz) only[↓DN,↓kAsg,↓kRet,UP,simprocAttr,↓kc_a,mL,lP,Tryz.f131]
 ·have kc_b:=fun {R:Type} {n:Nat} {hq:H} {k:KA R} (hn:1<=n)=>kc_b (ho2 (.inl hk)) (R:=R) (n:=n) (hq:=hq) (k:=k) hn;rw[hk]at kc_a kc_b|-;generalize okN N states 0=b0 at *;generalize okN N states 1=b1 at *;obtain _|n:=n;omega
  simp-implicitDefEqProofs (maxSteps:=9^7) (disch:=try exact Dz) only[↓DN,↓kAsg,↓kRet,UP,simprocAttr,↓kc_a,↓kc_b,mL,lP,Tryz.f131]
  all_goals (cases b0<;>cases b1<;>rfl)
 ·have kc_b:=fun {R:Type} {n:Nat} {hq:H} {k:KA R} (hn:1<=n)=>kc_b (ho2 (.inr hk)) (R:=R) (n:=n) (hq:=hq) (k:=k) hn;rw[hk]at kc_a kc_b|-;generalize okN N states 0=b0 at *;generalize okN N states 1=b1 at *
  cases b0 with
  |true=>
   obtain _|n:=n;omega
   simp-implicitDefEqProofs (maxSteps:=9^7) (disch:=try exact Dz) only[↓DN,↓kAsg,↓kRet,UP,simprocAttr,↓kc_a,↓kc_b,mL,lP,Tryz.f131]
  |false=>
   obtain _|n:=n;omega
   simp-implicitDefEqProofs (maxSteps:=9^7) (disch:=try exact Dz) only[↓DN,↓kAsg,↓kRet,UP,simprocAttr,↓kc_a,mL,lP,Tryz.f131]
 ·rw[hk]at kc_a|-;clear kc_b ho2;generalize okN N states 0=b0 at *;obtain _|n:=n;omega
  simp-implicitDefEqProofs (maxSteps:=9^7) (disch:=try exact Dz) only[↓DN,↓kAsg,↓kRet,UP,simprocAttr,↓kc_a,mL,lP,Tryz.f131]
theorem aE9(hn:1<=n)(N:Net)(states:List Int)(mvs:List (List Int))(hk:N.kind=5)(h1:N.ps.length<=1000)(hs:N.ps.length<states.length)(hs2:states.length<=4000):aA env L n 131 [.agg [.d (.ivs N.ps.length (sysD N.ps)),.d (.ivs N.us.length (fV N.us)),.d (.ivs N.start.length (ints N.start)),nI N.ls,nI N.kind,nI N.goal],.d (.ivs states.length (ints states)),.d (.ivs mvs.length (aL mvs))] []=some (.d (.bool (LF N states mvs)),[]):=by
 unfold LF;rw[hk];have hc:(N.ps.length:Int)<states.length:=om;have hc0:(0:Int)<=N.ps.length:=om;obtain _|n:=n;omega
 simp-implicitDefEqProofs (maxSteps:=9^7) (disch:=try exact Dz) only[↓DN,↓kAsg,↓kRet,UP,simprocAttr,hc,hc0,mL,lP,Tryz.f131]
theorem rN{R:Type}{E:Env}{call:aU}{h blk blk2 h2:H}{f:FuncId}{args fs:List A}{r:A}{k:KA R}{ids ord:List Nat}(hm:(E.hint f).mode=2)(hids:idsL args=ids)(hre:aD aG h ids []=ord)(hpk:pack h ord=blk)(hf:eA blk (aE (aI ord) args)=some (fs,blk2))(hcl:closed h ord ids=true)(hc:call f fs []=some (r,[]))(hr:idsA r=[])(hl:ord.length<=blk2.length)(hpb:bF (back ord h.length blk2.length) h ord blk2=h2):
  aW E call h f args k=k r h2:=by
 unfold aW;rw[hids,hre,hpk]
 have hc:bS call E.hint blk f (aE (aI ord) args)=some (r,blk2):=by
  unfold bS;rw[hm];simp only[hf,hc]
 rw[hc];simp only[hl,hcl,and_self,if_true,qH r hr,hpb]
theorem Y0(hn:1<=n){c2 c3 c5 c6:D}{al:Int}{zs:List Int}(hzl:zs.length<=1000)(hpr:∀i,i<=zs.length->0<=(zs.take i).foldl (·*·) 1/\(zs.take i).foldl (·*·) 1<=16777216){k:KE R}:∀(j i m:Nat) (hi:i+j=zs.length) (hm:j<m),
  aS env (aA env L n) L 0 [] Bz0 (dU 0) (U1 (Z4 (Z2 (U32 (U32 (U32 (U4 ([])))))))) m (Y1 (.ptr 0 0 0::.d (.str [])::.d (.bool false)::.d (.ivs zs.length (ints zs))::nI ((zs.take i).foldl (·*·) 1)::nI i::Y32 (Y32 (Y32 (Y4 ([])))))) [.box [.sl 1 0 0 0,.d c2,.d c3,nI al,.d c5,.d c6],.ice [] 0 0] k
  =k (.exit 0) (Y1 (.ptr 0 0 0::.d (.str [])::.d (.bool false)::.d (.ivs zs.length (ints zs))::nI (zs.foldl (·*·) 1)::nI (zs.length)::Y32 (Y32 (Y32 (Y4 ([])))))) [.box [.sl 1 0 0 0,.d c2,.d c3,nI al,.d c5,.d c6],.ice [] 0 0]:=by
 intro j
 induction j with
 |zero=>
  intro i m hi hm;obtain _|m:=m;omega;obtain rfl:i=zs.length:=om;rw[Cx]
  simp-implicitDefEqProofs (maxSteps:=9^7) (disch:=try exact Dz) only[↓DN,↓kRet,UP,simprocAttr,Aj,GA,CP,Tryz.f105]
 |succ j ih=>
  intro i m hi hm;obtain _|m:=m;omega;have hk:i<zs.length:=om;have hc:(i:Int)<zs.length:=om;have hi0:(0:Int)<=i:=om;have ih':=ih (i+1) m om om;obtain⟨p0,p1⟩:=hpr (i+1) om
  have e:(zs.take (i+1)).foldl (·*·) 1=(zs.take i).foldl (·*·) 1*zs.getD i 0:=by
   rw[List.take_add_one,Ae hk,List.foldl_append,Aa,Ae hk];rfl
  rw[e]at ih' p0 p1;rw[cs1 i]at ih';clear ih e;generalize(zs.take i).foldl (·*·) 1=t at *
  simp-implicitDefEqProofs (maxSteps:=9^7) (disch:=try exact Dz) only[↓DN,↓kRet,UP,simprocAttr,hc,hi0,↓ih',GA,CP,Tryz.f105]
def dI(gl:Int->Bool)(v:Nat):Int:=if gl v=true then 0 else -1
theorem ZI(hn:4<=n)(hL:2^60<=L){c2 c3 c5 c6:D}{al:Int}{zs:List Int}{tab:List (List (List Int))}{tt i6:Nat}{gl:Int->Bool}(hzl:zs.length<=1000)(htt:tt<=16777216)(hzp:∀z∈zs,0<z/\z<=65536)(htl:tab.length=tt)
  (kl_x:∀(v:Nat),v<tt->∀ {R:Type} {n:Nat} {k:A->Option R},2<=n->pJ (aA env L n) 131 [.agg [.d (.ivs 0 []),.d c2,.d c3,nI al,.d c5,.d c6],.d (.ivs zs.length (ints (decN zs v))),.d (.ivs (tab.getD v []).length (aL (tab.getD v [])))] k=k (.d (.bool (gl v))))
  {k:KE R}:∀(j v m:Nat) (o:List Int) (len:Nat) (hp:v+j=tt) (hm:j<m) (hlen:len=tt) (ho:o.length=tt),
  aS env (aA env L n) L 0 [] Bz0 (dU 1) (U1 (Z8 (Z1 (U32 (U32 (U32 (U1 ([])))))))) m (Y1 (.ptr 0 0 0::.d (.str [])::.d (.bool false)::.d (.ivs zs.length (ints zs))::nI tt::nI i6::.d (.ivs tab.length (tabD tab))::.sl 1 0 0 len::nI v::Y32 (Y32 (Y32 (Y1 ([])))))) [.box [.sl 2 0 0 0,.d c2,.d c3,nI al,.d c5,.d c6],.arr (ints o) 1 0,.ice [] 0 0] k
  =k (.exit 2) (Y1 (.ptr 0 0 0::.d (.str [])::.d (.bool false)::.d (.ivs zs.length (ints zs))::nI tt::nI i6::.d (.ivs tab.length (tabD tab))::.sl 1 0 0 len::nI tt::Y32 (Y32 (Y32 (Y1 ([])))))) [.box [.sl 2 0 0 0,.d c2,.d c3,nI al,.d c5,.d c6],.arr (ints (o.take v++(List.range' v j).map (dI gl))) 1 0,.ice [] 0 0]:=by
 intro j
 induction j with
 |zero=>
  intro v m o len hp hm hlen ho;obtain _|m:=m;omega;obtain rfl:v=tt:=om;subst hlen
  simp-implicitDefEqProofs (maxSteps:=9^7) (disch:=try exact Dz) only[↓DN,↓kRet,UP,simprocAttr,Aj,uQ,uH,Tryz.f105];have e1:o.take len=o:=Cf om;simp[e1]
 |succ j ih=>
  intro v m o len hp hm hlen ho;obtain _|m:=m;omega;subst hlen;have hk:v<o.length:=om;have hkt:v<tab.length:=om;have hc:(v:Int)<len:=om;have hv0:(0:Int)<=v:=om;have hdl:=ZD zs v;have kc_d:=@O5 L zs v hzp hzl hv0 om hL;have kl_y:=fun {R:Type} {n:Nat} {k:A->Option R} (hn:2<=n)=>kl_x v om (R:=R) (n:=n) (k:=k) hn;have kv_f:=fun {R:Type} {n:Nat} {hq:H} {args:List A} {k:KA R}=>dA (E:=env) (call:=aA env L n) (h:=hq) (k:=k) (args:=args) zR;rw[Dn,Ah];generalize decN zs v=ss at *
  by_cases hg:gl v=true
  ·have ih':=ih (v+1) m ((o.set v (-1)).set v 0) len om om rfl (by simpa using ho);rw[cs1 v,aJU (by simpa using hk),List.take_set_of_le (Ab v)]at ih';rw[show dI gl v=0 by unfold dI;rw[if_pos hg]];rw[hg]at kl_y;clear ih kl_x
   simp-implicitDefEqProofs (maxSteps:=9^7) (disch:=try exact Dz) only[↓DN,↓kRet,UP,simprocAttr,TE,hc,hv0,↓kc_d,↓kv_f,↓kl_y,↓aJN,↓ih',uQ,uH,Tryz.f105]
  ·have ih':=ih (v+1) m (o.set v (-1)) len om om rfl (by simpa using ho);rw[cs1 v,aJU (by simpa using hk)]at ih';rw[show dI gl v= -1 by unfold dI;rw[if_neg hg]];rw[Bool.not_eq_true]at hg;rw[hg]at kl_y;clear ih kl_x
   simp-implicitDefEqProofs (maxSteps:=9^7) (disch:=try exact Dz) only[↓DN,↓kRet,UP,simprocAttr,TE,hc,hv0,↓kc_d,↓kv_f,↓kl_y,↓aJN,↓ih',uQ,uH,Tryz.f105]
theorem V0(hn:5<=n)(hL:2^60<=L){c2 c3 c5 c6:D}{al d:Int}{zs ls dist at_:List Int}{o:List UInt8}{tab:List (List (List Int))}{aM i6 e:Nat}{i9:Int}(ht:AL tab aM)(hd:dist.length=aM)(htt:aM<=16777216)(hat:at_.length<=16777216)(har:∀x∈at_,0<=x/\x<aM)(hkk:∀kk,kk<ls.length->∀i,i<aM->kk<(tab.getD i []).length/\((tab.getD i []).getD kk []).length<=64)(hd0:0<d)(hd1:d<=4294967296)(hls:ls.length<=6)(he:e<ls.length)(he1:bE tab dist e (d-1) at_ []≠[]){k:KE R}:∀(j kk m:Nat) (hp:kk+j=e) (hm:j<m) (hz:∀f,kk<=f->f<e->bE tab dist f (d-1) at_ []=[]),
  aS env (aA env L n) L 0 [] Bz0 (dU 3) Bz27 m (Y1 (.ptr 0 0 0::.d (.str [])::.d (.bool false)::.d (.ivs zs.length (ints zs))::nI aM::nI i6::.d (.ivs tab.length (tabD tab))::.sl 1 0 0 dist.length::nI i9::.d (.ivs at_.length (ints at_))::.d (.ivs ls.length (ints ls))::.d (.str o)::nI d::nI kk::.d (.ivs (bE tab dist kk (d-1) at_ []).length (ints (bE tab dist kk (d-1) at_ [])))::Y32 (Y32 (Y16 (Y8 (Y2 (Y1 ([])))))))) [.box [.sl 2 0 0 0,.d c2,.d c3,nI al,.d c5,.d c6],.ice (ints dist) 1 0,.ice [] 0 0] k
  =k (.exit 6) (Y1 (.ptr 0 0 0::.d (.str [])::.d (.bool false)::.d (.ivs zs.length (ints zs))::nI aM::nI i6::.d (.ivs tab.length (tabD tab))::.sl 1 0 0 dist.length::nI i9::.d (.ivs at_.length (ints at_))::.d (.ivs ls.length (ints ls))::.d (.str o)::nI d::nI e::.d (.ivs (bE tab dist e (d-1) at_ []).length (ints (bE tab dist e (d-1) at_ [])))::Y32 (Y32 (Y16 (Y8 (Y2 (Y1 ([])))))))) [.box [.sl 2 0 0 0,.d c2,.d c3,nI al,.d c5,.d c6],.ice (ints dist) 1 0,.ice [] 0 0]:=by
 intro j
 induction j with
 |zero=>
  intro kk m hp hm hz;obtain _|m:=m;omega;obtain rfl:kk=e:=om;generalize bE tab dist kk (d-1) at_ []=w at *
  have hw:¬((w.length:Int)=0):=by
   have:=Du.2 he1;omega
  simp-implicitDefEqProofs (maxSteps:=9^7) (disch:=try exact Dz) only[↓DN,↓kRet,UP,simprocAttr,hw,nV,oO,Tryz.f105]
 |succ j ih=>
  intro kk m hp hm hz;obtain _|m:=m;omega;have h0:=hz kk (Ab _) om;have ih':=ih (kk+1) m om om (fun f h1 h2=>hz f om h2);have kc_c:=fun {R:Type} {n:Nat} {k:KA R} (hn:4<=n)=> @rN R env (aA env L n) [.box [.sl 2 0 0 0,.d c2,.d c3,nI al,.d c5,.d c6],.ice (ints dist) 1 0,.ice [] 0 0] [.ice (ints dist) 1 0] [.ice (ints dist) 1 0] [.box [.sl 2 0 0 0,.d c2,.d c3,nI al,.d c5,.d c6],.ice (ints dist) 1 0,.ice [] 0 0] 135 [.d (.ivs tab.length (tabD tab)),.sl 1 0 0 dist.length,.d (.ivs at_.length (ints at_)),nI ((kk+1:Nat):Int),nI (d-1)] [.d (.ivs tab.length (tabD tab)),.d (.ivs dist.length (ints dist)),.d (.ivs at_.length (ints at_)),nI ((kk+1:Nat):Int),nI (d-1)] _ k [1] [1] jH rfl kr rfl (by simp[eA,frzA,frz,frz0,aE,mapA,aI,deep,fY,dX]) rfl (@uJ L n hn hL tab dist at_ (d-1) (kk+1) aM ht hd htt hat har (hkk (kk+1) om)) rfl sm rfl;rw[cs1 kk]at ih' kc_c;rw[h0];clear ih hkk har ht hz;generalize bE tab dist (kk+1) (d-1) at_ []=w at *
  simp-implicitDefEqProofs (maxSteps:=9^7) (disch:=try exact Dz) only[↓DN,↓kRet,UP,simprocAttr,↓kc_c,↓ih',nV,oO,Tryz.f105]
theorem V5(hn:5<=n)(hL:2^60<=L){c2 c3 c5 c6:D}{al d:Int}{zs ls dist at_:List Int}{o:List UInt8}{tab:List (List (List Int))}{aM i6 e:Nat}{i9:Int}(ht:AL tab aM)(hd:dist.length=aM)(htt:aM<=16777216)(hat:at_.length<=16777216)(har:∀x∈at_,0<=x/\x<aM)(hkk:∀kk,kk<ls.length->∀i,i<aM->kk<(tab.getD i []).length/\((tab.getD i []).getD kk []).length<=64)(hd0:0<d)(hd1:d<=4294967296)(hls:ls.length<=6)(he:e<ls.length)(he1:bE tab dist e (d-1) at_ []≠[]){k:KE R}:∀(j kk m:Nat) (hp:kk+j=e) (hm:j<m) (hz:∀f,kk<=f->f<e->bE tab dist f (d-1) at_ []=[]),
  aS env (aA env L n) L 0 [] Bz0 (dU 3) Bz27 m (Y1 (.ptr 0 0 0::.d (.str [])::.d (.bool false)::.d (.ivs zs.length (ints zs))::nI aM::nI i6::.d (.ivs tab.length (tabD tab))::.sl 1 0 0 dist.length::nI i9::.sl 2 0 0 at_.length::.d (.ivs ls.length (ints ls))::.d (.str o)::nI d::nI kk::.d (.ivs (bE tab dist kk (d-1) at_ []).length (ints (bE tab dist kk (d-1) at_ [])))::Y32 (Y32 (Y16 (Y8 (Y2 (Y1 ([])))))))) [.box [.sl 3 0 0 0,.d c2,.d c3,nI al,.d c5,.d c6],.ice (ints dist) 1 0,.ice (ints at_) 1 0,.ice [] 0 0] k
  =k (.exit 6) (Y1 (.ptr 0 0 0::.d (.str [])::.d (.bool false)::.d (.ivs zs.length (ints zs))::nI aM::nI i6::.d (.ivs tab.length (tabD tab))::.sl 1 0 0 dist.length::nI i9::.sl 2 0 0 at_.length::.d (.ivs ls.length (ints ls))::.d (.str o)::nI d::nI e::.d (.ivs (bE tab dist e (d-1) at_ []).length (ints (bE tab dist e (d-1) at_ [])))::Y32 (Y32 (Y16 (Y8 (Y2 (Y1 ([])))))))) [.box [.sl 3 0 0 0,.d c2,.d c3,nI al,.d c5,.d c6],.ice (ints dist) 1 0,.ice (ints at_) 1 0,.ice [] 0 0]:=by
 intro j
 induction j with
 |zero=>
  intro kk m hp hm hz;obtain _|m:=m;omega;obtain rfl:kk=e:=om;generalize bE tab dist kk (d-1) at_ []=w at *
  have hw:¬((w.length:Int)=0):=by
   have:=Du.2 he1;omega
  simp-implicitDefEqProofs (maxSteps:=9^7) (disch:=try exact Dz) only[↓DN,↓kRet,UP,simprocAttr,hw,nV,oO,Tryz.f105]
 |succ j ih=>
  intro kk m hp hm hz;obtain _|m:=m;omega;have h0:=hz kk (Ab _) om;have ih':=ih (kk+1) m om om (fun f h1 h2=>hz f om h2);have kc_c:=fun {R:Type} {n:Nat} {k:KA R} (hn:4<=n)=> @rN R env (aA env L n) [.box [.sl 3 0 0 0,.d c2,.d c3,nI al,.d c5,.d c6],.ice (ints dist) 1 0,.ice (ints at_) 1 0,.ice [] 0 0] [.ice (ints dist) 1 0,.ice (ints at_) 1 0] [.ice (ints dist) 1 0,.ice (ints at_) 1 0] [.box [.sl 3 0 0 0,.d c2,.d c3,nI al,.d c5,.d c6],.ice (ints dist) 1 0,.ice (ints at_) 1 0,.ice [] 0 0] 135 [.d (.ivs tab.length (tabD tab)),.sl 1 0 0 dist.length,(.sl 2 0 0 at_.length),nI ((kk+1:Nat):Int),nI (d-1)] [.d (.ivs tab.length (tabD tab)),.d (.ivs dist.length (ints dist)),.d (.ivs at_.length (ints at_)),nI ((kk+1:Nat):Int),nI (d-1)] _ k [1,2] [1,2] jH rfl kr rfl (by simp[eA,frzA,frz,frz0,aE,mapA,aI,deep,fY,dX]) rfl (@uJ L n hn hL tab dist at_ (d-1) (kk+1) aM ht hd htt hat har (hkk (kk+1) om)) rfl sm rfl;rw[cs1 kk]at ih' kc_c;rw[h0];clear ih hkk har ht hz;generalize bE tab dist (kk+1) (d-1) at_ []=w at *
  simp-implicitDefEqProofs (maxSteps:=9^7) (disch:=try exact Dz) only[↓DN,↓kRet,UP,simprocAttr,↓kc_c,↓ih',nV,oO,Tryz.f105]
end
end Ev
end Go.Proofs.YthlkcebdfbjdoaaGreat
