/-
  Products as the reference searches them, walked: distances, nodes that are bJ.
-/
import Derived.Test.YthlkcebdfbjdoaaGreatNetT
set_option linter.unusedSimpArgs false
set_option linter.unusedVariables false
set_option maxRecDepth 8000
set_option maxHeartbeats 4000000
namespace Go.Proofs.YthlkcebdfbjdoaaGreat
namespace Ev
variable{R:Type}{L n:Nat}
def BQ(tab:List (List (List Int)))(aO:Nat):Prop:=tab.length=aO/\∀i,i<aO->(tab.getD i []).length<=1000/\∀r∈tab.getD i [],r.length<=4294967290/\∀x∈r,0<=x/\x<aO
theorem aBb(hn:3<=n)(hL:2^60<=L){tab:List (List (List Int))}{aO:Nat}{d:Int}(ht:BQ tab aO)(htt:aO<=16777216)(hd:1<=d)(hd2:d<=4294967296){k:KE R}:∀(j i m:Nat) (q:List Int) (b:Bool) (len:Nat) (hi:i+j=aO) (hm:j<m) (hq:q.length=aO) (hlen:len=aO),
  aM env (aA env L n) L 1 [] Bz19 (hM 1) (Z2 (U2 (Z2 (Z1 (U16 (U8 (U4 ([])))))))) m (.d (.ivs tab.length (tabD tab))::.sl 0 0 0 len::Y2 (.d (.bool b)::nI d::nI i::Y16 (Y8 (Y4 ([]))))) [.arr (ints q) 1 0] k
  =k (.exit 2) (.d (.ivs tab.length (tabD tab))::.sl 0 0 0 len::Y2 (.d (.bool (((dZ tab d j i (q,b)).2)))::nI d::nI aO::Y16 (Y8 (Y4 ([]))))) [.arr (ints (dZ tab d j i (q,b)).1) 1 0]:=by
 obtain⟨tl,ht⟩:=ht;intro j
 induction j with
 |zero=>
  intro i m q b len hi hm hq hlen;obtain _|m:=m;omega;obtain rfl:i=aO:=by omega
  subst hlen;simp -implicitDefEqProofs (maxSteps:=2000000) (disch:=try exact Dz) only[↓DN,↓kRet,UP,simprocAttr,Aj,qJ,rH,Tryz.f133];rfl
 |succ j ih=>
  intro i m q b len hi hm hq hlen;obtain _|m:=m;omega;subst hlen;have hk:i<q.length:=by omega
  have hkt:i<tab.length:=by omega
  have hc:(i:Int)<len:=by omega
  have hi0:(0:Int)<=i:=by omega
  obtain⟨t1,t2⟩:=ht i (by omega);have kl_n:=@aJv L (tab.getD i []) q (d-1) (by omega) (by rw[hq];exact t2) (by omega) hL;rw[hq]at kl_n;simp only[dZ]
  by_cases h1:q.getD i 0<0
  ·by_cases h2:LD (tab.getD i []) q (d-1)=true
   ·have ih':=ih (i+1) m (q.set i d) true len (by omega) (by omega) (by simpa using hq) rfl;rw[cs1 i]at ih';rw[if_pos ⟨h1,h2⟩];clear ih;rw[h2]at kl_n;simp -implicitDefEqProofs (maxSteps:=2000000) (disch:=try exact Dz) only[↓DN,↓kAsg,↓kRet,UP,simprocAttr,↓QA,TE,hc,hi0,h1,↓kl_n,↓WR,↓ih',qJ,rH,Tryz.f133]
   ·have ih':=ih (i+1) m q b len (by omega) (by omega) hq rfl;rw[cs1 i]at ih';rw[if_neg fun h=>h2 h.2];clear ih;rw[Bool.not_eq_true]at h2;rw[h2]at kl_n;simp -implicitDefEqProofs (maxSteps:=2000000) (disch:=try exact Dz) only[↓DN,↓kRet,UP,simprocAttr,↓QA,TE,hc,hi0,h1,↓kl_n,↓ih',qJ,rH,Tryz.f133]
  ·have ih':=ih (i+1) m q b len (by omega) (by omega) hq rfl;rw[cs1 i]at ih';rw[if_neg fun h=>h1 h.1];clear ih kl_n;simp -implicitDefEqProofs (maxSteps:=2000000) (disch:=try exact Dz) only[↓DN,↓kRet,UP,simprocAttr,hc,hi0,h1,↓ih',qJ,rH,Tryz.f133]
def dEnd(tab:List (List (List Int))):Nat->Int->List Int->Int
 |0,d,_=>d
 |j+1,d,dist=>if(dZ tab d dist.length 0 (dist,false)).2=true then dEnd tab j (d+1) (dZ tab d dist.length 0 (dist,false)).1 else d+1
theorem LX{tab:List (List (List Int))}{d:Int}:∀(j i:Nat) (q:List Int×Bool),(dZ tab d j i q).1.length=q.1.length
 |0,_,q=>rfl
 |j+1,i,q=>by
  simp only[dZ]
  split
  ·rw[LX j];simp
  ·exact LX j _ q
theorem aC4{R:Type}{L n m tt len:Nat}{tab:List (List (List Int))}{d:Int}{h:List Int}{k:KE R}:
  aM env (aA env L n) L 1 [] Bz19 (hM 0) Bz46 (m+1) (.d (.ivs tt (tabD tab))::.sl 0 0 0 len::Y2 (.d (.bool false)::nI d::Y16 (Y8 (Y4 (Y1 ([])))))) [.arr (ints h) 1 0] k
  =k (.exit 0) (.d (.ivs tt (tabD tab))::.sl 0 0 0 len::Y2 (.d (.bool false)::nI d::Y16 (Y8 (Y4 (Y1 ([])))))) [.arr (ints h) 1 0]:=by
 simp -implicitDefEqProofs (maxSteps:=2000000) (disch:=try exact Dz) only[↓DN,UP,simprocAttr,x7,yT,Tryz.f133]
theorem aCB(hn:3<=n)(hL:2^60<=L){tab:List (List (List Int))}{aO:Nat}(ht:BQ tab aO)(htt:aO<=16777216){k:KE R}:∀(j:Nat) (d:Int) (m:Nat) (q:List Int) (len:Nat) (hc:q.countP (·<0)<j) (hm:j<m) (hd:1<=d) (hd2:d+j<=4294967296) (hq:q.length=aO) (hlen:len=aO),
  aM env (aA env L n) L 1 [] Bz19 (hM 0) Bz46 m (.d (.ivs tab.length (tabD tab))::.sl 0 0 0 len::Y2 (.d (.bool true)::nI d::Y16 (Y8 (Y4 (Y1 ([])))))) [.arr (ints q) 1 0] k
  =k (.exit 0) (.d (.ivs tab.length (tabD tab))::.sl 0 0 0 len::Y2 (.d (.bool false)::nI (dEnd tab j d q)::Y16 (Y8 (Y4 (Y1 ([])))))) [.arr (ints (dS tab j d q)) 1 0]:=by
 intro j
 induction j with
 |zero=>intro d m q len hc;omega
 |succ j ih=>
  intro d m q len hc hm hd hd2 hq hlen;obtain _|m:=m;omega;subst hlen;have loop_c:=fun {R n k} hn=> @aBb R L n hn hL tab len d ht htt hd (by omega) k len 0 L q false len (by omega) (by omega) hq rfl;simp only[Aq]at loop_c;have hcnt:=WB (tab:=tab) (d:=d) (by omega) len 0 (q,false) (by simp;omega);have hlen2:=LX (tab:=tab) (d:=d) len 0 (q,false);simp only[dS,dEnd,hq];generalize dZ tab d len 0 (q,false)=r at *;obtain⟨r0,r1⟩:=r;simp only at loop_c hcnt hlen2|-
  cases r1 with
  |true=>
   have hlt:r0.countP (·<0)<q.countP (·<0):=by
    rcases hcnt.2 rfl with h|h
    ·cases h
    ·exact h
   have ih':=ih (d+1) m r0 len (by omega) (by omega) (by omega) (by omega) (by omega) rfl;simp only[if_true];clear ih hcnt;simp -implicitDefEqProofs (maxSteps:=2000000) (disch:=try exact Dz) only[↓DN,↓kAsg,↓kRet,UP,simprocAttr,↓loop_c,↓ih',x7,yT,Tryz.f133]
  |false=>
   simp only[Ak,if_false];clear ih hcnt;obtain _|m:=m;omega;have loop_e:=fun {d:Int} {h:List Int}=> @aC4 R L n m tab.length len tab d h k;simp -implicitDefEqProofs (maxSteps:=2000000) (disch:=try exact Dz) only[↓DN,↓kAsg,↓kRet,UP,simprocAttr,↓loop_c,↓loop_e,x7,yT,Tryz.f133]
theorem aJq(hn:4<=n)(hL:2^60<=L){tab:List (List (List Int))}{aO:Nat}(ht:BQ tab aO)(htt:aO<=16777216)(dist:List Int)(hd:dist.length=aO):
  aA env L n 133 [.d (.ivs tab.length (tabD tab)),.sl 0 0 0 dist.length] [.arr (ints dist) 1 0]=some (.tup [],[.arr (ints (dS tab (aO+1) 1 dist)) 1 0]):=by
 have hcl:dist.countP (·<0)<aO+1:=by have:=List.countP_le_length (p:=(·<0)) (l:=dist);omega
 have loop_c:=fun {R n k} hn=> @aCB R L n hn hL tab aO ht htt k (aO+1) 1 L dist aO hcl (by omega) (by omega) (by omega) hd rfl;rw[hd];generalize dS tab (aO+1) 1 dist=w at *;obtain _|n:=n;omega;simp -implicitDefEqProofs (maxSteps:=2000000) (disch:=try exact Dz) only[↓DN,↓kAsg,UP,simprocAttr,↓loop_c,aJy,aB2,Tryz.f133]
theorem XC(hn:3<=n)(hL:2^60<=L){tab:List (List (List Int))}{dist at_ list:List Int}{d kk:Int}{ii:Nat}(hdl:dist.length<=16777216)(hll:list.length<=4294967290)(hr:∀x∈list,0<=x/\x<dist.length){k:KE R}:∀(j p m:Nat) (o:List Int) (len:Nat) (hp:p+j=list.length) (hm:j<m) (hlen:len=o.length) (ho:o.length+j<=4294967290),
  aM env (aA env L n) L 0 [] Bz22 (gE 1) (Z4 (Z1 (U4 (U1 (Z4 (Z1 (U32 (U16 (U1 ([])))))))))) m (.d (.ivs tab.length (tabD tab))::.d (.ivs dist.length (ints dist))::.d (.ivs at_.length (ints at_))::nI kk::nI d::Y4 (Y1 (.d .nils::.sl 0 0 0 len::nI ii::.d (.ivs list.length (ints list))::nI p::Y32 (Y16 (Y1 ([])))))) [.arr (ints o) 1 0] k
  =k (.exit 2) (.d (.ivs tab.length (tabD tab))::.d (.ivs dist.length (ints dist))::.d (.ivs at_.length (ints at_))::nI kk::nI d::Y4 (Y1 (.d .nils::.sl 0 0 0 (addC dist d (list.drop p) o).length::nI ii::.d (.ivs list.length (ints list))::nI (list.length)::Y32 (Y16 (Y1 ([])))))) [.arr (ints (addC dist d (list.drop p) o)) 1 0]:=by
 intro j
 induction j with
 |zero=>
  intro p m o len hp hm hlen ho;obtain _|m:=m;omega;obtain rfl:p=list.length:=by omega
  subst hlen;simp -implicitDefEqProofs (maxSteps:=2000000) (disch:=try exact Dz) only[↓DN,↓kRet,UP,simprocAttr,Aj,m7,nY,Tryz.f135];simp[addC]
 |succ j ih=>
  intro p m o len hp hm hlen ho;obtain _|m:=m;omega;subst hlen;have hk:p<list.length:=by omega
  have hc:(p:Int)<list.length:=by omega
  have hp0:(0:Int)<=p:=by omega
  obtain⟨r0,r1⟩:=hr _ (lN hk);have hk2:(list.getD p 0).toNat<dist.length:=by omega
  rw[cI hk (d:=0)];simp only[addC]
  by_cases h1:dist.getD (list.getD p 0).toNat 0=d
  ·have kl_i:=@aFP L o (list.getD p 0) (by omega) hL
   by_cases h2:list.getD p 0∈o
   ·have ih':=ih (p+1) m o o.length (by omega) (by omega) rfl (by omega);rw[cs1 p]at ih';rw[if_neg fun h=>h.2 h2];clear ih;rw[decide_eq_true h2]at kl_i;simp -implicitDefEqProofs (maxSteps:=2000000) (disch:=try exact Dz) only[↓DN,↓kRet,UP,simprocAttr,↓BW,hc,hp0,h1,↓kl_i,r0,r1,↓ih',m7,nY,Tryz.f135]
   ·have ih':=ih (p+1) m (o++[list.getD p 0]) (o.length+1) (by omega) (by omega) (by simp) (by rw[Af,Co];omega);rw[cs1 p]at ih';rw[if_pos ⟨h1,h2⟩];clear ih;rw[decide_eq_false h2]at kl_i;simp -implicitDefEqProofs (maxSteps:=2000000) (disch:=try exact Dz) only[↓DN,↓kRet,UP,simprocAttr,↓BW,hc,hp0,h1,↓kl_i,r0,r1,↓ih',m7,nY,Tryz.f135]
  ·have ih':=ih (p+1) m o o.length (by omega) (by omega) rfl (by omega);rw[cs1 p]at ih';rw[if_neg fun h=>h1 h.1];clear ih;simp -implicitDefEqProofs (maxSteps:=2000000) (disch:=try exact Dz) only[↓DN,↓kRet,UP,simprocAttr,hc,hp0,h1,r0,r1,↓ih',m7,nY,Tryz.f135]
theorem aAJ{dist:List Int}{d:Int}:∀(ms out:List Int),(addC dist d ms out).length<=out.length+ms.length
 | [],out=>by simp[addC]
 |m::ms,out=>by
  unfold addC
  split
  ·have:=aAJ (dist:=dist) (d:=d) ms (out++[m]);simp at this|-;omega
  ·have:=aAJ (dist:=dist) (d:=d) ms out;simp at this|-;omega
theorem XG(hn:3<=n)(hL:2^60<=L){tab:List (List (List Int))}{dist at_:List Int}{d:Int}{kk aO:Nat}(ht:BQ tab aO)(hd:dist.length=aO)(htt:aO<=16777216)(hat:at_.length<=16777216)(har:∀x∈at_,0<=x/\x<aO)(hkk:∀i,i<aO->kk<(tab.getD i []).length/\((tab.getD i []).getD kk []).length<=64){k:KE R}:∀(j i m:Nat) (o:List Int) (len:Nat) (hp:i+j=at_.length) (hm:j<m) (hlen:len=o.length) (ho:o.length+j*64<=2147483648),
  aM env (aA env L n) L 0 [] Bz22 (gE 0) (Z4 (Z1 (U4 (U1 (Z2 (Z1 (U32 (U16 (U2 (U1 ([]))))))))))) m (.d (.ivs tab.length (tabD tab))::.d (.ivs dist.length (ints dist))::.d (.ivs at_.length (ints at_))::nI kk::nI d::Y4 (Y1 (.d .nils::.sl 0 0 0 len::nI i::Y32 (Y16 (Y2 (Y1 ([]))))))) [.arr (ints o) 1 0] k
  =k (.exit 0) (.d (.ivs tab.length (tabD tab))::.d (.ivs dist.length (ints dist))::.d (.ivs at_.length (ints at_))::nI kk::nI d::Y4 (Y1 (.d .nils::.sl 0 0 0 (bJ tab dist kk d (at_.drop i) o).length::nI (at_.length)::Y32 (Y16 (Y2 (Y1 ([]))))))) [.arr (ints (bJ tab dist kk d (at_.drop i) o)) 1 0]:=by
 obtain⟨tl,ht⟩:=ht;intro j
 induction j with
 |zero=>
  intro i m o len hp hm hlen ho;obtain _|m:=m;omega;obtain rfl:i=at_.length:=by omega
  subst hlen;simp -implicitDefEqProofs (maxSteps:=2000000) (disch:=try exact Dz) only[↓DN,↓kRet,UP,simprocAttr,Aj,E5,A5,Tryz.f135];simp[bJ]
 |succ j ih=>
  intro i m o len hp hm hlen ho;obtain _|m:=m;omega;subst hlen;have hk:i<at_.length:=by omega
  have hc:(i:Int)<at_.length:=by omega
  have hi0:(0:Int)<=i:=by omega
  obtain⟨r0,r1⟩:=har _ (lN hk);have hk2:(at_.getD i 0).toNat<tab.length:=by omega
  have hc2:at_.getD i 0<tab.length:=by omega
  obtain⟨q1,q2⟩:=hkk (at_.getD i 0).toNat (by omega);obtain⟨t1,t2⟩:=ht (at_.getD i 0).toNat (by omega);have hc3:(kk:Int)<(tab.getD (at_.getD i 0).toNat []).length:=by omega
  have hkk0:(0:Int)<=kk:=by omega
  have t3:=t2 ((tab.getD (at_.getD i 0).toNat []).getD kk []) (by
   rw[Aa (l:=tab.getD (at_.getD i 0).toNat []),Ae q1];exact Az q1)
  rw[cI hk (d:=0)];simp only[bJ];generalize hrow:tab.getD (at_.getD i 0).toNat []=row at *;generalize hli:row.getD kk []=li at *;rw[Nat.succ_mul]at ho;have loop_c:=fun {R n k} hn=> @XC R L n hn hL tab dist at_ li d kk i (by omega) (by omega) (by rw[hd];exact t3.2) k li.length 0 L o o.length (by omega) (by omega) rfl (by omega);simp only[Bc,Aq]at loop_c;have hal:=aAJ (dist:=dist) (d:=d) li o;have ih':=ih (i+1) m (addC dist d li o) _ (by omega) (by omega) rfl (by omega);rw[cs1 i]at ih';clear ih hkk ht t2 t3;generalize addC dist d li o=w at *;simp -implicitDefEqProofs (maxSteps:=2000000) (disch:=try exact Dz) only[↓DN,↓kAsg,↓kRet,UP,simprocAttr,TE,LA,hc,hi0,hc2,r0,hc3,hkk0,hrow,hli,↓loop_c,↓ih',E5,A5,Tryz.f135]
theorem vG(hn:4<=n)(hL:2^60<=L){tab:List (List (List Int))}{dist at_:List Int}{d:Int}{kk aO:Nat}(ht:BQ tab aO)(hd:dist.length=aO)(htt:aO<=16777216)(hat:at_.length<=16777216)(har:∀x∈at_,0<=x/\x<aO)(hkk:∀i,i<aO->kk<(tab.getD i []).length/\((tab.getD i []).getD kk []).length<=64):
  aA env L n 135 [.d (.ivs tab.length (tabD tab)),.d (.ivs dist.length (ints dist)),.d (.ivs at_.length (ints at_)),nI kk,nI d] []=some (.d (.ivs (bJ tab dist kk d at_ []).length (ints (bJ tab dist kk d at_ []))),[]):=by
 have loop_c:=fun {R n k} hn=> @XG R L n hn hL tab dist at_ d kk aO ht hd htt hat har hkk k at_.length 0 L [] 0 (by omega) (by omega) rfl (by simp;omega);simp only[Bc,Aq,oK]at loop_c;generalize bJ tab dist kk d at_ []=w at *;have e4:(ints w).take w.length=ints w:=eS (Ab _);clear hkk har ht;obtain _|n:=n;omega;simp -implicitDefEqProofs (maxSteps:=2000000) (disch:=try exact Dz) only[↓DN,↓kAsg,↓kRet,UP,simprocAttr,↓loop_c,e4,aGH,VC,Tryz.f135]
end Ev
end Go.Proofs.YthlkcebdfbjdoaaGreat
