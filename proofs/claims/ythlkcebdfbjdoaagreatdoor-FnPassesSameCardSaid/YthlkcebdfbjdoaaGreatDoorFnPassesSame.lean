/-
  Classes of states, walked: the program's way.
-/
import Derived.Test.YthlkcebdfbjdoaaGreatDoorClassS
import Derived.Test.YthlkcebdfbjdoaaGreatDoorPathZ
import Derived.Test.YthlkcebdfbjdoaaGreatDoorTrimL
import Derived.Test.YthlkcebdfbjdoaaGreatDoorNetX
import Derived.Test.YthlkcebdfbjdoaaGreatDoorPassL
import Derived.Test.YthlkcebdfbjdoaaGreatDoorAnyD
set_option linter.unusedSimpArgs false
set_option linter.unusedVariables false
set_option linter.unusedSectionVars false
set_option maxRecDepth 8000
set_option maxHeartbeats 4000000
namespace Go.Proofs.YthlkcebdfbjdoaaGreatDoor
namespace Ev
section
variable{R:Type}{L n:Nat}
theorem aVz{cl r:List Int}{k:Nat}(h:k<r.length):keyT cl (r.drop k)=44::eD (clA cl (r.getD k 0))++keyT cl (r.drop (k+1)):=by
 rw[b8 h (d:=0)];rfl
theorem aNC(a:Aut)(cl:List Int)(q:Nat):(List.range (q+1)).map (keyA a cl)=(List.range q).map (keyA a cl)++[keyA a cl q]:=by
 rw[List.range_succ,Cn];rfl
def cntG(a:Aut):Nat->List Int->Nat->Nat
 |0,_,c=>c
 |j+1,cl,c=>if(aQ (sigs a cl)).length=c then c else cntG a j (numL (sigs a cl)) (aQ (sigs a cl)).length
theorem aSS{a:O}{h:H}{g e k:Nat}{l:List Int}{v:Int}(hk:k<l.length):gZ env.P (a::.arr (ints l) e g::h) 3 (.ptr 1 g k) (nI v)=some (a::.arr (ints (l.set k v)) e g::h):=by
 rw[mO (id:=1) rfl O4 aKs rfl (by rw[dH];exact hk),K8 hk];rfl
theorem aLL{a b c:O}{h:H}{g e k:Nat}{l:List Int}{v:Int}(hk:k<l.length):gZ env.P (a::b::c::.arr (ints l) e g::h) 3 (.ptr 3 g k) (nI v)=some (a::b::c::.arr (ints (l.set k v)) e g::h):=by
 rw[mO (id:=3) rfl O4 aKs rfl (by rw[dH];exact hk),K8 hk];rfl
theorem XQ(hn:1<=n)(hL:2^60<=L){a:Aut}(ha:AOK a){k:KE R}:∀(j i m:Nat) (c:List Int) (hi:i+j=a.nx.length) (hm:j<m) (hc:c=(cl0 a).take i++List.replicate (a.nx.length-i) 0),
  aT env (aA env L n) L 0 [] Bz0 (eU 0) (U1 (Z2 (Z1 (U16 (Z2 (U32 (U32 (U4 (U1 ([])))))))))) m (Y1 (.ptr 0 0 0::.d .nils::.sl 1 0 0 a.nx.length::Y16 (nI (a.nx.length:Int)::nI i::Y32 (Y32 (Y4 (Y1 ([]))))))) [.box [nI a.al,.d (.ivs a.nx.length (aE a.nx)),.d (.ivs a.ac.length (aD a.ac))],.arr (ints c) 1 0] k
  =k (.exit 0) (Y1 (.ptr 0 0 0::.d .nils::.sl 1 0 0 a.nx.length::Y16 (nI (a.nx.length:Int)::nI (a.nx.length:Int)::Y32 (Y32 (Y4 (Y1 ([]))))))) [.box [nI a.al,.d (.ivs a.nx.length (aE a.nx)),.d (.ivs a.ac.length (aD a.ac))],.arr (ints (cl0 a)) 1 0]:=by
 obtain⟨sa,wa,a1,a2,a3⟩:=aR ha;have hal:=sa.1;have hcl:(cl0 a).length=a.nx.length:=(U6 ha).len;intro j
 induction j with
 |zero=>
  intro i m c hi hm hc;obtain _|m:=m;omega;obtain rfl:i=a.nx.length:=om;have e:c=cl0 a:=by rw[hc,Ce om,Bj];simp
  subst e
  simp-implicitDefEqProofs (maxSteps:=9^7) (disch:=try exact Dz) only[↓DN,↓kRet,UP,simprocAttr,Ah,tU,sB,Tryz.f69]
 |succ j ih=>
  intro i m c hi hm hc;obtain _|m:=m;omega;have hlt:(i:Int)<a.nx.length:=om;have hi0:(0:Int)<=i:=om;have hia:(i:Int)<a.ac.length:=om;have hlen:c.length=a.nx.length:=by rw[hc,Af,Bi,List.length_replicate];omega
  have hk:i<c.length:=om;have hik:(i:Int)<c.length:=om
  have hg:(cl0 a)[i]'om=if a.ac.getD i false=true then 1 else 0:=by
   unfold cl0;rw[Dr,Aa,Ad om];rfl
  have hrep:List.replicate (a.nx.length-i) (0:Int)=0::List.replicate (a.nx.length-(i+1)) 0:=by
   rw[show a.nx.length-i=(a.nx.length-(i+1))+1 by omega,Eg]
  have htk:(cl0 a).take (i+1)=(cl0 a).take i++[(cl0 a)[i]'om]:=by
   rw[Cw,Ad om];rfl
  cases hb:a.ac.getD i false with
  |true=>
   have ih':=ih (i+1) m (c.set i 1) om om (by
    rw[htk,hg,hb,hc,hrep,Dk _ _ (by rw[Bi];omega)];rw[show i-((cl0 a).take i).length=0 by rw[Bi];omega]
    simp)
   rw[cs1 i]at ih';clear ih hc hg hrep htk
   simp-implicitDefEqProofs (maxSteps:=9^7) (disch:=try exact Dz) only[↓DN,↓kRet,UP,simprocAttr,LA,hlt,hi0,hia,hb,↓aSS,↓ih',tU,sB,Tryz.f69]
  |false=>
   have ih':=ih (i+1) m c om om (by
    rw[htk,hg,hb,hc,hrep];simp)
   rw[cs1 i]at ih';clear ih hc hg hrep htk
   simp-implicitDefEqProofs (maxSteps:=9^7) (disch:=try exact Dz) only[↓DN,↓kRet,UP,simprocAttr,LA,hlt,hi0,hia,hb,↓ih',tU,sB,Tryz.f69]
theorem ZI(hn:5<=n)(hL:2^60<=L){a:Aut}{cl:List Int}(hcl:cl.length=a.nx.length)(hrng:∀q,q<a.nx.length->0<=cl.getD q 0/\cl.getD q 0<12)(hal:a.nx.length<=12){r:List Int}(hr6:r.length<=6)(hr:∀x∈r,0<=x/\x<a.nx.length){o:List (D×D)}{nl:List D}{q n20 n21 c:Int}{k:KE R}:∀(j p m:Nat) (s:Str) (hp:p+j=r.length) (hm:j<m) (hs:s.length+3*j<=1000),
  aT env (aA env L n) L 0 [] Bz0 (eU 3) (U1 (Z2 (Z1 (U1 (Z4 (U1 (Z1 (U8 (U1 (Z2 (U16 (Z2 (Z1 (U8 (U1 (Z2 (Z1 (U32 (U4 (U2 ([]))))))))))))))))))))) m (Y1 (.ptr 0 0 0::.d .nils::.sl 1 0 0 a.nx.length::Y1 (nI c::.mp 2::.sl 3 0 0 a.nx.length::nI q::Y1 (.d (.str s)::Y8 (Y1 (nI n20::nI n21::Y16 (.d (.ivs a.nx.length (aE a.nx))::nI (a.nx.length:Int)::nI q::Y8 (Y1 (.d (.ivs r.length (ints r))::nI (r.length:Int)::nI p::Y32 (Y4 (Y2 ([])))))))))))) [.box [nI a.al,.d (.ivs a.nx.length (aE a.nx)),.d (.ivs a.ac.length (aD a.ac))],.arr (ints cl) 1 0,.mp o,.arr nl 1 0] k
  =k (.exit 6) (Y1 (.ptr 0 0 0::.d .nils::.sl 1 0 0 a.nx.length::Y1 (nI c::.mp 2::.sl 3 0 0 a.nx.length::nI q::Y1 (.d (.str ((s++keyT cl (r.drop p))))::Y8 (Y1 (nI n20::nI n21::Y16 (.d (.ivs a.nx.length (aE a.nx))::nI (a.nx.length:Int)::nI q::Y8 (Y1 (.d (.ivs r.length (ints r))::nI (r.length:Int)::nI (r.length:Int)::Y32 (Y4 (Y2 ([])))))))))))) [.box [nI a.al,.d (.ivs a.nx.length (aE a.nx)),.d (.ivs a.ac.length (aD a.ac))],.arr (ints cl) 1 0,.mp o,.arr nl 1 0]:=by
 intro j
 induction j with
 |zero=>
  intro p m s hp hm hs;obtain _|m:=m;omega;obtain rfl:p=r.length:=om;have e:s++keyT cl (r.drop r.length)=s:=by rw[Bt];simp[keyT]
  rw[e]
  simp-implicitDefEqProofs (maxSteps:=9^7) (disch:=try exact Dz) only[↓DN,↓kRet,UP,simprocAttr,Ah,E8,zZ,Tryz.f69]
 |succ j ih=>
  intro p m s hp hm hs;obtain _|m:=m;omega;have hk:p<r.length:=om;have hlt:(p:Int)<r.length:=om;have hp0:(0:Int)<=p:=om;obtain⟨x0,x1⟩:=hr _ (j3 hk);obtain⟨c0,c1⟩:=hrng (r.getD p 0).toNat om;have x2:r.getD p 0<cl.length:=om;have kc_i:=@O6 L (cl.getD (r.getD p 0).toNat 0) c0 c1;have hil:=aLV (cl.getD (r.getD p 0).toNat 0);rw[aVz hk];have ih':=ih (p+1) m (s++44::eD (cl.getD (r.getD p 0).toNat 0)) om om (by rw[Af,Ae];omega);rw[cs1 p]at ih';unfold clA;rw[Al]at ih';clear ih hr hrng;generalize keyT cl (r.drop (p+1))=w at *;generalize hx:r.getD p 0=x at *;generalize hci:cl.getD x.toNat 0=ci at *;generalize eD ci=t at *;have hb1:([44]:Str).length+t.length<=bI:=by unfold bI;simp;omega
  have hb2:s.length+([44]++t:Str).length<=bI:=by unfold bI;simp;omega
  have hb3:s.length+(t.length+1)<=bI:=by unfold bI;omega
  simp-implicitDefEqProofs (maxSteps:=9^7) (disch:=try exact Dz) only[↓DN,↓kRet,UP,simprocAttr,hlt,hp0,hx,x0,hci,x1,↓kc_i,↓ih',E8,zZ,Tryz.f69]
theorem aAd(hn:5<=n)(hL:2^60<=L){a:Aut}(ha:AOK a){cl:List Int}(hC:Cls a cl){n20 n21 c:Int}{k:KE R}:∀(j q m:Nat) (o:List Str) (nl:List Int) (hq:q+j=a.nx.length) (hm:j<m) (ho:o=aQ ((List.range q).map (keyA a cl))) (hnl:nl=numL ((List.range q).map (keyA a cl))++List.replicate (a.nx.length-q) 0),
  aT env (aA env L n) L 0 [] Bz0 (eU 2) (U1 (Z2 (Z1 (U1 (Z2 (Z1 (U8 (U4 (Z2 (U16 (Z2 (Z1 (U32 (U16 (U2 ([])))))))))))))))) m (Y1 (.ptr 0 0 0::.d .nils::.sl 1 0 0 a.nx.length::Y1 (nI c::.mp 2::.sl 3 0 0 a.nx.length::Y8 (Y4 (nI n20::nI n21::Y16 (.d (.ivs a.nx.length (aE a.nx))::nI (a.nx.length:Int)::nI q::Y32 (Y16 (Y2 ([]))))))))) [.box [nI a.al,.d (.ivs a.nx.length (aE a.nx)),.d (.ivs a.ac.length (aD a.ac))],.arr (ints cl) 1 0,.mp (numS o),.arr (ints nl) 1 0] k
  =k (.exit 4) (Y1 (.ptr 0 0 0::.d .nils::.sl 1 0 0 a.nx.length::Y1 (nI c::.mp 2::.sl 3 0 0 a.nx.length::Y8 (Y4 (nI n20::nI n21::Y16 (.d (.ivs a.nx.length (aE a.nx))::nI (a.nx.length:Int)::nI (a.nx.length:Int)::Y32 (Y16 (Y2 ([]))))))))) [.box [nI a.al,.d (.ivs a.nx.length (aE a.nx)),.d (.ivs a.ac.length (aD a.ac))],.arr (ints cl) 1 0,.mp (numS (aQ (kL a cl))),.arr (ints (numL (kL a cl))) 1 0]:=by
 obtain⟨sa,wa,a1,a2,a3⟩:=aR ha;have hal:=sa.1;intro j
 induction j with
 |zero=>
  intro q m o nl hq hm ho hnl;obtain _|m:=m;omega;obtain rfl:q=a.nx.length:=om;have e1:o=aQ (kL a cl):=ho;have e2:nl=numL (kL a cl):=by rw[hnl,Bj];simp[kL]
  subst e1;subst e2
  simp-implicitDefEqProofs (maxSteps:=9^7) (disch:=try exact Dz) only[↓DN,↓kRet,UP,simprocAttr,Ah,s8,rW,Tryz.f69]
 |succ j ih=>
  intro q m o nl hq hm ho hnl;obtain _|m:=m;omega;have hlt:(q:Int)<a.nx.length:=om;have hq0:(0:Int)<=q:=om;have hql:(q:Int)<cl.length:=by rw[hC.len];omega
  obtain⟨c0,c1⟩:=hC.rng q om;have hrow:=(gC ha (i:=q) om).1;have hll:=bO a.al
  have hrr:∀x∈a.nx.getD q [],0<=x/\x<a.nx.length:=by
   intro x hx;have hm2:=CW ha (v:=(q:Int)) om om;unfold rowA at hm2;rw[Ca]at hm2;rw[<-hm2]at hx;obtain⟨l,hl,rfl⟩:=Bd.1 hx;exact o7 ha q l om om hl
  have hil:=aLV (cl.getD q 0);have kc_i:=@O6 L (cl.getD q 0) c0 c1;have loop_c:=fun {R:Type} {n:Nat} {o:List (D×D)} {nl:List D} {q':Int} {k:KE R} (hn:5<=n)=> @ZI R L n hn hL a cl hC.len hC.rng a2 (a.nx.getD q []) om hrr o nl q' n20 n21 c k (a.nx.getD q []).length 0 L (eD (cl.getD q 0)) om om om;rw[Ay]at loop_c;have ek:eD (cl.getD q 0)++keyT cl (a.nx.getD q [])=keyA a cl q:=rfl;rw[ek]at loop_c;simp only[Ao]at loop_c;have hpk:=aNC a cl q;have hnll:(numL ((List.range q).map (keyA a cl))).length=q:=by rw[m6,Am,Db]
  have hrep:List.replicate (a.nx.length-q) (0:Int)=0::List.replicate (a.nx.length-(q+1)) 0:=by
   rw[show a.nx.length-q=(a.nx.length-(q+1))+1 by omega,Eg]
  have hset:∀v:Int,nl.set q v=numL ((List.range q).map (keyA a cl))++v::List.replicate (a.nx.length-(q+1)) 0:=by
   intro v;rw[hnl,hrep,Dk _ _ om,hnll,Bj,Ci]
  have hnlen:nl.length=a.nx.length:=by rw[hnl,Af,hnll,List.length_replicate];omega
  have hqn:q<nl.length:=om;have hqn2:(q:Int)<nl.length:=om
  by_cases hin:keyA a cl q∈o
  ·have hadd:addG o (keyA a cl q)=o:=RY hin;have ih':=ih (q+1) m o (nl.set q (idxG o (keyA a cl q):Nat)) om om (by rw[hpk,gP,<-ho,hadd]) (by rw[hset,hpk,tO,<-ho,hadd];simp);rw[cs1 q]at ih';clear ih hset hnl ho hpk hnll hrep hrr hC ek hadd;generalize hci:cl.getD q 0=ci at *;generalize hrw:a.nx.getD q []=rw0 at *;have hrw2:rw0.length<=6:=om;generalize keyA a cl q=key at *
   simp-implicitDefEqProofs (maxSteps:=9^7) (disch:=try exact Dz) only[↓DN,↓kRet,UP,simprocAttr,LA,hlt,hq0,hci,hrw,↓kc_i,↓loop_c,aIQ,hin,↓aLL,↓ih',s8,rW,Tryz.f69]
  ·have hadd:addG o (keyA a cl q)=o++[keyA a cl q]:=C8 hin;have hidx2:=aEh hin;have ih':=ih (q+1) m (o++[keyA a cl q]) (nl.set q (o.length:Nat)) om om (by rw[hpk,gP,<-ho,hadd]) (by rw[hset,hpk,tO,<-ho,hadd,hidx2];simp);rw[cs1 q]at ih';clear ih hset hnl ho hpk hnll hrep hrr hC ek hadd hidx2;generalize hci:cl.getD q 0=ci at *;generalize hrw:a.nx.getD q []=rw0 at *;have hrw2:rw0.length<=6:=om;generalize keyA a cl q=key at *
   simp-implicitDefEqProofs (maxSteps:=9^7) (disch:=try exact Dz) only[↓DN,↓kRet,UP,simprocAttr,LA,hlt,hq0,hci,hrw,↓kc_i,↓loop_c,aIQ,aTs,aDT,hin,↓aLL,↓ih',s8,rW,Tryz.f69]
theorem Y7(hn:5<=n)(hL:2^60<=L){a:Aut}(ha:AOK a){n20 n21:Int}{k:KE R}:∀(j m:Nat) (cl:List Int) (c:Nat) (hC:Cls a cl) (h0:c=0\/c=(aQ cl).length) (hj:a.nx.length<j+c) (hle:c<=a.nx.length) (hm:j<m),
  aT env (aA env L n) L 0 [] Bz0 (eU 1) (U1 (Z2 (Z1 (U1 (Z1 (U8 (U4 (U2 (Z2 (U32 (U32 (U4 (U1 ([])))))))))))))) m (Y1 (.ptr 0 0 0::.d .nils::.sl 1 0 0 a.nx.length::Y1 (nI c::Y8 (Y4 (Y2 (nI n20::nI n21::Y32 (Y32 (Y4 (Y1 ([])))))))))) [.box [nI a.al,.d (.ivs a.nx.length (aE a.nx)),.d (.ivs a.ac.length (aD a.ac))],.arr (ints cl) 1 0] k
  =k .ret (Y1 (.ptr 0 0 0::.sl 1 0 0 a.nx.length::.sl 1 0 0 a.nx.length::Y1 (nI (cntG a j cl c:Int)::Y8 (Y4 (Y2 (nI n20::nI n21::Y32 (Y32 (Y4 (Y1 ([])))))))))) [.box [nI a.al,.d (.ivs a.nx.length (aE a.nx)),.d (.ivs a.ac.length (aD a.ac))],.arr (ints (clsG a j cl c)) 1 0]:=by
 obtain⟨sa,wa,a1,a2,a3⟩:=aR ha;have hal:=sa.1;intro j
 induction j with
 |zero=>
  intro m cl c hC h0 hj hle hm;omega
 |succ j ih=>
  intro m cl c hC h0 hj hle hm;obtain _|m:=m;omega;have hcn:=aD0 ha hC;obtain⟨ks1,ks2⟩:=aQs ha hC;have loop_c:=fun {R n k} hn=> @aAd R L n hn hL a ha cl hC n20 n21 (c:Int) k a.nx.length 0 L [] (List.replicate a.nx.length 0) om om rfl (by simp[numL,aQ]);rw[ks1,aTi]at loop_c;simp only[Ao]at loop_c;have hlen:=hC.len;have hl2:(aQ (kL a cl)).length=(aQ (sigs a cl)).length:=ks2;have hle2:=kM (sigs a cl);rw[cW]at hle2;unfold clsG cntG
  by_cases he:(aQ (sigs a cl)).length=c
  ·rw[if_pos he,if_pos he];have he2:(((aQ (kL a cl)).length:Nat):Int)=(c:Int):=om;clear ih hcn ks1 ks2 h0 hC;generalize numL (sigs a cl)=w at *;generalize aQ (kL a cl)=fk at *
   simp-implicitDefEqProofs (maxSteps:=9^7) (disch:=try exact Dz) only[↓DN,↓kRet,UP,simprocAttr,↓uB,↓loop_c,aDT,he2,FC,BA,Tryz.f69]
  ·rw[if_neg he,if_neg he]
   have hpos:0<(aQ (sigs a cl)).length:=by
    have:(sigs a cl)[0]'(by rw[cW];omega)∈aQ (sigs a cl):=bU.2 (At _);exact Ek this
   have hge:c<=(aQ (sigs a cl)).length:=by
    rcases h0 with h0|h0
    ·omega
    ·have:=F8 (sigs a cl) (fun s=>s.headD 0);rw[OB hC]at this;omega
   have ih':=ih m (numL (sigs a cl)) (aQ (sigs a cl)).length hcn (.inr (C1 (EV (sigs a cl))).2.symm) om hle2 om;have he2:¬((((aQ (kL a cl)).length:Nat):Int)=(c:Int)):=om;rw[<-ks2]at ih'|-;clear ih hcn ks1 ks2 h0 hC hpos hge;generalize clsG a j (numL (sigs a cl)) (aQ (kL a cl)).length=z at *;generalize cntG a j (numL (sigs a cl)) (aQ (kL a cl)).length=z2 at *;generalize numL (sigs a cl)=w at *;generalize aQ (kL a cl)=fk at *
   simp-implicitDefEqProofs (maxSteps:=9^7) (disch:=try exact Dz) only[↓DN,↓kRet,UP,simprocAttr,↓uB,↓loop_c,aDT,he2,↓ih',FC,BA,Tryz.f69]
theorem Q0(hn:6<=n)(a:Aut)(ha:AOK a)(hL:2^60<=L):aA env L n 69 [.agg [nI a.al,.d (.ivs a.nx.length (aE a.nx)),.d (.ivs a.ac.length (aD a.ac))]] []=some (.d (.ivs (a8 a).length (ints (a8 a))),[]):=by
 obtain⟨sa,wa,a1,a2,a3⟩:=aR ha;have hal:=sa.1;have loop_a:=fun {R n k} hn=> @XQ R L n hn hL a ha k a.nx.length 0 L (List.replicate a.nx.length 0) om om smp;have loop_b:=fun {R:Type} {n:Nat} {n20 n21:Int} {k:KE R} (hn:5<=n)=> @Y7 R L n hn hL a ha n20 n21 k (a.nx.length+1) L (cl0 a) 0 (U6 ha) (.inl rfl) om om om;have e:clsG a (a.nx.length+1) (cl0 a) 0=a8 a:=rfl;rw[e]at loop_b;have hcl:=E4 ha;simp only[Ao]at loop_a loop_b;have e4:(ints (a8 a)).take a.nx.length=ints (a8 a):=by rw[cI om]
 have e5:(ints (a8 a)).length=a.nx.length:=by rw[dH,hcl]
 rw[hcl];generalize cntG a (a.nx.length+1) (cl0 a) 0=z2 at *;generalize a8 a=w at *;obtain _|n:=n;omega
 simp-implicitDefEqProofs (maxSteps:=9^7) (disch:=try exact Dz) only[↓DN,↓kAsg,↓kRet,UP,simprocAttr,↓uB,↓loop_a,↓loop_b,e4,e5,Ab,aHe,WR,Tryz.f69]
theorem aHL:type_of% fun {L} a ha hL=>ks fun hn=> @Q0 L _ hn a ha hL:=fun {L} a ha hL=>ks fun hn=> @Q0 L _ hn a ha hL
end
section
def numG:List Int->Nat->List (D×D)
 | [],_=>[]
 |x::o,i=>(.int .i64 x,.int .i64 (i:Nat))::numG o (i+1)
def numM(o:List Int):List (D×D):=numG o 0
theorem aMj:∀(o:List Int) (x:Int) (i:Nat),numG (o++[x]) i=numG o i++[(.int .i64 x,.int .i64 ((i+o.length:Nat):Int))]
 | [],x,i=>by simp[numG]
 |y::o,x,i=>by
  simp only[Ax,numG,aMj o x (i+1),Ae];rw[show i+1+o.length=i+(o.length+1) by omega]
theorem aHr{x:Int}{k:IntKind}:∀(o:List Int) (i c:Nat),nV (.int k) (.int .i64 x) (numG o i) c=some (if x∈o then some (c+o.idxOf x)else none)
 | [],i,c=>by simp[numG,nV]
 |y::o,i,c=>by
  simp only[numG,nV,IL,if_true]
  by_cases h:x=y
  ·subst h;simp
  ·have h2:(x==y)=false:=by simpa using h
   have h3:(y==x)=false:=by simpa using fun e:y=x=>h e.symm
   rw[h2];simp only[aHr o (i+1) (c+1),Au,h,false_or,List.idxOf_cons,h3,cond_false]
   by_cases hm:x∈o
   ·rw[if_pos hm,if_pos hm,show c+1+o.idxOf x=c+(o.idxOf x+1) by omega]
   ·rw[if_neg hm,if_neg hm]
theorem aLU:∀(o:List Int) (i q:Nat) (z:D×D),q<o.length->((numG o i).getD q z).2=.int .i64 ((i+q:Nat):Int)
 | [],_,_,_,h=>by simp at h
 |x::o,i,0,z,_=>by simp[numG]
 |x::o,i,q+1,z,h=>by
  simp only[numG,Eo];rw[aLU o (i+1) q z (by simpa using h),show i+1+q=i+(q+1) by omega]
theorem aON:mapT env.P 174=some (.int .i64,3):=kr
theorem aTB:cZ env.P 3=some (nI 0):=kr
theorem aST{h:H}{id:Nat}{o:List Int}{x:Int}(hi:h[id]? =some (.mp (numM o))):
  n5 env.P h 174 true (.mp id) (nI x)=some (.tup [nI (if x∈o then idxU o x else 0),.d (.bool (decide (x∈o)))],h):=by
 unfold n5 numM at *;simp only[aON,hi,aTB,H9,pQ,decide_true,Bo,if_true,aHr]
 by_cases hm:x∈o
 ·obtain⟨_,hq⟩:=vG hm;simp only[if_pos hm,zX,vH,if_true,Cu,Ag,aLU o 0 _ _ hq,idxU,decide_eq_true hm]
 ·simp only[if_neg hm,zX,vH,if_true,Ck,decide_eq_false hm]
theorem aOZ{h:H}{id:Nat}{o:List Int}{x:Int}(hi:h[id]? =some (.mp (numM o)))(hx:x∉o):
  d5 env.P h 174 (.mp id) (nI x) (nI (o.length:Int))=some (.d .undef,h.set id (.mp (numM (o++[x])))):=by
 unfold d5;unfold numM at *;simp only[aON,hi,H9,pQ,decide_true,Bo,if_true,aHr,if_neg hx,qY,aMj,Ag]
theorem aIv{a:O}{T:H}{o:List Int}{x:Int}:n5 env.P (a::.mp (numM o)::T) 174 true (.mp 1) (nI x)=some (.tup [nI (if x∈o then idxU o x else 0),.d (.bool (decide (x∈o)))],a::.mp (numM o)::T):=aST rfl
theorem aTe{a:O}{T:H}{o:List Int}{x:Int}(hx:x∉o):d5 env.P (a::.mp (numM o)::T) 174 (.mp 1) (nI x) (nI (o.length:Int))=some (.d .undef,a::.mp (numM (o++[x]))::T):=aOZ rfl hx
theorem aT9{a:O}{T:H}{x:Int}:d5 env.P (a::.mp []::T) 174 (.mp 1) (nI x) (nI 0)=some (.d .undef,a::.mp (numM [x])::T):=aOZ (o:=[]) (h:=a::.mp []::T) rfl smp
theorem YM{f:Int->Int}{r:List Int}{k:Nat}(h:k<r.length):(r.drop k).map f=f (r.getD k 0)::(r.drop (k+1)).map f:=by
 rw[b8 h (d:=0)];rfl
theorem aSE(o:List Int)(x:Int):∃t,addU o x=o++t:=by
 unfold addU
 split
 ·exact⟨[],by simp⟩
 ·exact⟨[x],rfl⟩
theorem aTF(o:List Int)(x:Int):x∈addU o x:=by
 unfold addU
 split
 ·assumption
 ·simp
theorem TF:∀(xs o:List Int),∃t,rowU o xs=o++t
 | [],o=>⟨[],by simp[rowU]⟩
 |x::xs,o=>by
  obtain⟨t,ht⟩:=aSE o x;obtain⟨u,hu⟩:=TF xs (addU o x);refine⟨t++u,?_⟩;show rowU (addU o x) xs=_;rw[hu,ht,Al]
theorem aHk{o t:List Int}{x:Int}(h:x∈o):idxU (o++t) x=idxU o x:=by
 unfold idxU;rw[List.idxOf_append,if_pos h]
theorem aU6{o t:List Int}{x:Int}(h:x∉o):idxU (o++[x]++t) x=o.length:=by
 rw[aHk smp];unfold idxU;rw[List.idxOf_append,if_neg h];simp
theorem ZV(o xs:List Int)(x:Int):rowU o (x::xs)=rowU (addU o x) xs:=rfl
theorem aM4:∀(xs o:List Int) (x:Int),x∈xs->x∈rowU o xs
 |y::xs,o,x,h=>by
  rw[ZV]
  rcases Au.1 h with rfl|h
  ·obtain⟨t,ht⟩:=TF xs (addU o x);rw[ht];exact Ee _ (aTF o x)
  ·exact aM4 xs _ x h
theorem aLg{n0:Nat}:∀(xs o:List Int),o.Nodup->(∀x∈o,0<=x/\x<n0)->(∀x∈xs,0<=x/\x<n0)->(rowU o xs).Nodup/\∀x∈rowU o xs,0<=x/\x<n0
 | [],o,h1,h2,_=>⟨h1,h2⟩
 |y::xs,o,h1,h2,h3=>by
  rw[ZV];refine aLg xs _ ?_ ?_ fun x hx=>h3 x (Bb _ hx)
  ·unfold addU
   split
   ·exact h1
   ·rename_i hin
    rw[Dh];refine⟨h1,by simp,fun x hx z hz=> ?_⟩;simp only[Bh]at hz;subst hz;rintro rfl;exact hin hx
  ·intro x hx;unfold addU at hx
   split at hx
   ·exact h2 x hx
   ·rcases Ap.1 hx with hx|hx
    ·exact h2 x hx
    ·simp only[Bh]at hx;subst hx;exact h3 _ Bf
section
variable{nx:Int->Int->Int}{nf:FuncId}{caps:List D}{n0:Nat}
theorem aEv{R:Type}{L n:Nat}(hn:4<=n)(hL:2^60<=L)(hsz:n0<=4096){ls:List Int}(hll:ls.length<=6){v:Int}{i:Nat}
  (kc_n:∀ {R:Type} {n:Nat} {hq:H} {k:KA R} (c:Int),3<=n->c∈ls->aX env (aA env L n) hq nf (nI v::nI c::caps.map A.d) k=k (nI (nx v c)) hq)
  (hv:∀c∈ls,0<=nx v c/\nx v c<n0) {d:List D} {dl:Nat} {k:KE R}:∀(j q m:Nat) (o r:List Int) (len rl:Nat) (hq:q+j=ls.length) (hm:j<m) (hlen:len=o.length) (hrl:rl=r.length) (hr:r.length+j<=100) (hnd:o.Nodup) (hrg:∀x∈o,0<=x/\x<n0) (hi:i<o.length) (hvo:o.getD i 0=v),
  aT env (aA env L n) L 0 (W8 (W4 (W1 [2,0,2]))) Bz9 (iO 1) (U1 (Z2 (Z1 (U4 (Z8 (U16 (Z2 (Z1 (U32 (U8 (U2 ([])))))))))))) m (Y1 (.d (.ivs ls.length (ints ls))::nI n0::.d (.fn nf caps)::Y4 (.d .nils::.d .nils::.d (.bool false)::.sl 0 0 0 len::.mp 1::.sl 2 0 0 dl::nI i::.sl 3 0 0 rl::Y16 (.d (.ivs ls.length (ints ls))::nI (ls.length:Int)::nI q::Y32 (Y8 (Y2 ([]))))))) [.arr (ints o) 1 0,.mp (numM o),.arr d 1 0,.arr (ints r) 1 0] k
  =k (.exit 2) (Y1 (.d (.ivs ls.length (ints ls))::nI n0::.d (.fn nf caps)::Y4 (.d .nils::.d .nils::.d (.bool false)::.sl 0 0 0 (rowU o ((ls.drop q).map (nx v))).length::.mp 1::.sl 2 0 0 dl::nI i::.sl 3 0 0 (r++((ls.drop q).map (nx v)).map (idxU (rowU o ((ls.drop q).map (nx v))))).length::Y16 (.d (.ivs ls.length (ints ls))::nI (ls.length:Int)::nI (ls.length:Int)::Y32 (Y8 (Y2 ([]))))))) [.arr (ints (rowU o ((ls.drop q).map (nx v)))) 1 0,.mp (numM (rowU o ((ls.drop q).map (nx v)))),.arr d 1 0,.arr (ints (r++((ls.drop q).map (nx v)).map (idxU (rowU o ((ls.drop q).map (nx v)))))) 1 0]:=by
 intro j
 induction j with
 |zero=>
  intro q m o r len rl hq hm hlen hrl hr hnd hrg hi hvo;obtain _|m:=m;omega;obtain rfl:q=ls.length:=om;subst hlen;subst hrl;rw[Bt];simp only[Ar,Aj,rowU,List.foldl_nil]
  simp-implicitDefEqProofs (maxSteps:=9^7) (disch:=try exact Dz) only[↓DN,↓kRet,UP,simprocAttr,Ah,oE,mI,Tryz.f118]
 |succ j ih=>
  intro q m o r len rl hq hm hlen hrl hr hnd hrg hi hvo;obtain _|m:=m;omega;subst hlen;subst hrl;have hk:q<ls.length:=om;have hc:(q:Int)<ls.length:=om;have hq0:(0:Int)<=q:=om;have hio:(i:Int)<o.length:=om;have hi0:(0:Int)<=i:=om;have hmem:ls.getD q 0∈ls:=j3 hk;obtain⟨t0,t1⟩:=hv _ hmem;have kc_x:=fun {R:Type} {n:Nat} {hq:H} {k:KA R} (hn:3<=n)=> @kc_n R n hq k (ls.getD q 0) hn hmem;have hol:=eB hnd hrg;rw[YM hk,ZV];obtain⟨T,hT⟩:=TF ((ls.drop (q+1)).map (nx v)) (addU o (nx v (ls.getD q 0)));have hr100:r.length<=100:=om
  by_cases hin:nx v (ls.getD q 0)∈o
  ·have hadd:addU o (nx v (ls.getD q 0))=o:=by unfold addU;rw[if_pos hin]
   rw[hadd]at hT|-;have ih':=ih (q+1) m o (r++[idxU o (nx v (ls.getD q 0))]) o.length (r.length+1) om om rfl smp (by simp;omega) hnd hrg hi hvo;rw[cs1 q]at ih';have he:idxU (rowU o ((ls.drop (q+1)).map (nx v))) (nx v (ls.getD q 0))=idxU o (nx v (ls.getD q 0)):=by rw[hT,aHk hin]
   simp only[Ai,he];simp only[Al,Dl]at ih';clear ih he hT hadd kc_n hv hnd hrg;generalize rowU o ((ls.drop (q+1)).map (nx v))=w at *;generalize((ls.drop (q+1)).map (nx v)).map (idxU w)=w2 at *;generalize nx v (ls.getD q 0)=x at *
   simp-implicitDefEqProofs (maxSteps:=9^7) (disch:=try exact Dz) only[↓DN,↓kRet,UP,simprocAttr,hc,hq0,hio,hi0,hvo,↓kc_x,aIv,hin,↓ih',oE,mI,Tryz.f118]
  ·have hadd:addU o (nx v (ls.getD q 0))=o++[nx v (ls.getD q 0)]:=by unfold addU;rw[if_neg hin]
   rw[hadd]at hT|-
   have hnd2:(o++[nx v (ls.getD q 0)]).Nodup:=by
    rw[Dh];refine⟨hnd,by simp,fun x hx y hy=> ?_⟩;simp only[Bh]at hy;subst hy;rintro rfl;exact hin hx
   have hrg2:∀x∈o++[nx v (ls.getD q 0)],0<=x/\x<n0:=by
    intro x hx
    rcases Ap.1 hx with hx|hx
    ·exact hrg x hx
    ·simp only[Bh]at hx;subst hx;exact⟨t0,t1⟩
   have hol2:=eB hnd2 hrg2;rw[Af]at hol2;simp only[Ae,Ac,Ag]at hol2;have hlim:¬((o.length:Int)=n0):=om;have ih':=ih (q+1) m (o++[nx v (ls.getD q 0)]) (r++[(o.length:Int)]) (o.length+1) (r.length+1) om om smp smp (by simp;omega) hnd2 hrg2 (by simp;omega) (by rw[kC hi];exact hvo);rw[cs1 q]at ih';have he:idxU (rowU (o++[nx v (ls.getD q 0)]) ((ls.drop (q+1)).map (nx v))) (nx v (ls.getD q 0))=o.length:=by rw[hT,aU6 hin]
   simp only[Ai,he];simp only[Al,Dl]at ih';clear ih he hT hadd kc_n hv hnd hrg hnd2 hrg2;generalize rowU (o++[nx v (ls.getD q 0)]) ((ls.drop (q+1)).map (nx v))=w at *;generalize((ls.drop (q+1)).map (nx v)).map (idxU w)=w2 at *;generalize nx v (ls.getD q 0)=x at *
   simp-implicitDefEqProofs (maxSteps:=9^7) (disch:=try exact Dz) only[↓DN,↓kRet,UP,simprocAttr,hc,hq0,hio,hi0,hvo,↓kc_x,aIv,aTe,hin,hlim,↓ih',oE,mI,Tryz.f118]
theorem aFB{R:Type}{L n:Nat}(hn:4<=n)(hL:2^60<=L)(hsz:n0<=4096){ls:List Int}(hll:ls.length<=6)
  (kc_n:∀ {R:Type} {n:Nat} {hq:H} {k:KA R} (v c:Int),3<=n->0<=v->v<n0->c∈ls->aX env (aA env L n) hq nf (nI v::nI c::caps.map A.d) k=k (nI (nx v c)) hq)
  (hv:∀v c:Int,0<=v->v<n0->c∈ls->0<=nx v c/\nx v c<n0) {k:KE R}:∀(j i m:Nat) (o:List Int) (d:List (List Int)) (len dl:Nat) (hi:i<=o.length) (hj:n0<i+j) (hm:j<m) (hlen:len=o.length) (hdl:i=dl) (hd:d=(o.take i).map fun v=>(ls.map (nx v)).map (idxU o)) (hcl:∀v∈o.take i,∀l∈ls,nx v l∈o) (hnd:o.Nodup) (hrg:∀x∈o,0<=x/\x<n0),
  aT env (aA env L n) L 0 (W8 (W4 (W1 [2,0,2]))) Bz9 (iO 0) Bz31 m (Y1 (.d (.ivs ls.length (ints ls))::nI n0::.d (.fn nf caps)::Y4 (.d .nils::.d .nils::.d (.bool false)::.sl 0 0 0 len::.mp 1::.sl 2 0 0 dl::nI i::Y32 (Y16 (Y8 (Y4 (Y2 ([])))))))) [.arr (ints o) 1 0,.mp (numM o),.arr (aE d) 1 0] k
  =k (.exit 0) (Y1 (.d (.ivs ls.length (ints ls))::nI n0::.d (.fn nf caps)::Y4 (.d .nils::.d .nils::.d (.bool false)::.sl 0 0 0 (ordB nx ls j i o).length::.mp 1::.sl 2 0 0 (ordB nx ls j i o).length::nI ((ordB nx ls j i o).length:Int)::Y32 (Y16 (Y8 (Y4 (Y2 ([])))))))) [.arr (ints (ordB nx ls j i o)) 1 0,.mp (numM (ordB nx ls j i o)),.arr (aE ((ordB nx ls j i o).map fun v=>(ls.map (nx v)).map (idxU (ordB nx ls j i o)))) 1 0]:=by
 have last:∀(i m:Nat) (o:List Int) (d:List (List Int)) (len dl:Nat),i=o.length->0<m->len=o.length->i=dl->aT env (aA env L n) L 0 (W8 (W4 (W1 [2,0,2]))) Bz9 (iO 0) Bz31 m (Y1 (.d (.ivs ls.length (ints ls))::nI n0::.d (.fn nf caps)::Y4 (.d .nils::.d .nils::.d (.bool false)::.sl 0 0 0 len::.mp 1::.sl 2 0 0 dl::nI i::Y32 (Y16 (Y8 (Y4 (Y2 ([])))))))) [.arr (ints o) 1 0,.mp (numM o),.arr (aE d) 1 0] k
  =k (.exit 0) (Y1 (.d (.ivs ls.length (ints ls))::nI n0::.d (.fn nf caps)::Y4 (.d .nils::.d .nils::.d (.bool false)::.sl 0 0 0 o.length::.mp 1::.sl 2 0 0 o.length::nI (o.length:Int)::Y32 (Y16 (Y8 (Y4 (Y2 ([])))))))) [.arr (ints o) 1 0,.mp (numM o),.arr (aE d) 1 0]:=by
  intro i m o d len dl hi hm hlen hdl;obtain _|m:=m;omega;subst hdl;subst hi;subst hlen
  simp-implicitDefEqProofs (maxSteps:=9^7) (disch:=try exact Dz) only[↓DN,↓kRet,UP,simprocAttr,Ah,yX,sZ,Tryz.f118]
 intro j
 induction j with
 |zero=>
  intro i m o d len dl hi hj hm hlen hdl hd hcl hnd hrg;have:=eB hnd hrg;omega
 |succ j ih=>
  intro i m o d len dl hi hj hm hlen hdl hd hcl hnd hrg;unfold ordB
  by_cases hlt:i<o.length
  ·obtain _|m:=m;omega;subst hlen;subst hdl;rw[if_pos hlt];obtain⟨v0,v1⟩:=hrg _ (j3 hlt);have hol:=eB hnd hrg;obtain⟨T,hT⟩:=TF (ls.map (nx (o.getD i 0))) o
   have hres:=aLg (n0:=n0) (ls.map (nx (o.getD i 0))) o hnd hrg (by
    intro x hx;obtain⟨l,hl,rfl⟩:=Bd.1 hx;exact hv _ l v0 v1 hl)
   have htk:(rowU o (ls.map (nx (o.getD i 0)))).take (i+1)=o.take i++[o.getD i 0]:=by
    rw[hT,List.take_append_of_le_length om,Cw,Ad hlt,Aa,Ad hlt];rfl
   have hd2:d++[(ls.map (nx (o.getD i 0))).map (idxU (rowU o (ls.map (nx (o.getD i 0)))))]=((rowU o (ls.map (nx (o.getD i 0)))).take (i+1)).map fun v=>(ls.map (nx v)).map (idxU (rowU o (ls.map (nx (o.getD i 0))))):=by
    rw[htk,Cn,hd]
    congr 1
    apply Cz;intro v hvm;apply Cz;intro x hx;obtain⟨l,hl,rfl⟩:=Bd.1 hx;rw[hT,aHk (hcl v hvm l hl)]
   have hcl2:∀v∈(rowU o (ls.map (nx (o.getD i 0)))).take (i+1),∀l∈ls,nx v l∈rowU o (ls.map (nx (o.getD i 0))):=by
    intro v hvm l hl;rw[htk]at hvm
    rcases Ap.1 hvm with hvm|hvm
    ·rw[hT];exact Ee _ (hcl v hvm l hl)
    ·simp only[Bh]at hvm;subst hvm;exact aM4 _ _ _ (Bd.2 ⟨l,hl,rfl⟩)
   have hge:o.length<=(rowU o (ls.map (nx (o.getD i 0)))).length:=by rw[hT];simp
   have hdlen:d.length=i:=by rw[hd,Am,Bi];omega
   have loop_c:=fun {R:Type} {n:Nat} {k:KE R} (hn:4<=n)=> @aEv nx nf caps n0 R L n hn hL hsz ls hll (o.getD i 0) i (fun {R n hq k} c h3 hc=>kc_n _ c h3 v0 v1 hc) (fun c hc=>hv _ c v0 v1 hc) (aE d) i k ls.length 0 L o [] o.length 0 om om rfl rfl (by rw[Ac];omega) hnd hrg hlt rfl;rw[Ay]at loop_c;have ih':=ih (i+1) m (rowU o (ls.map (nx (o.getD i 0)))) _ _ (i+1) om om om rfl rfl hd2 hcl2 hres.1 hres.2;rw[cs1 i]at ih';simp only[Ao,Aq,kA]at loop_c;have hc:(i:Int)<o.length:=om;have hi0:(0:Int)<=i:=om;have hi12:i<=4096:=om;have hw2l:((ls.map (nx (o.getD i 0))).map (idxU (rowU o (ls.map (nx (o.getD i 0)))))).length<=6:=by rw[Am,Am];exact hll
   clear ih hd hcl hnd hrg last hd2 hcl2 hres htk hT kc_n hv;generalize(ls.map (nx (o.getD i 0))).map (idxU (rowU o (ls.map (nx (o.getD i 0)))))=w2 at *;generalize rowU o (ls.map (nx (o.getD i 0)))=w at *;generalize ordB nx ls j (i+1) w=z at *;have ht:(aE d).take i=aE d:=kY om;have hwt:(ints w2).take w2.length=ints w2:=by rw[cI (Ab _)]
   simp-implicitDefEqProofs (maxSteps:=9^7) (disch:=try exact Dz) only[↓DN,↓kAsg,↓kRet,UP,simprocAttr,LA,hc,↓loop_c,ht,hwt,pG,↓ih',yX,sZ,Tryz.f118]
  ·rw[if_neg hlt];have hio:i=o.length:=om;have hd3:d=o.map fun v=>(ls.map (nx v)).map (idxU o):=by rw[hd,hio,Ct]
   rw[last i m o d len dl hio om hlen hdl,hd3]
theorem aBs{L n:Nat}(hn:5<=n)(hL:2^60<=L)(h0:0<n0)(hsz:n0<=4096){ls:List Int}(hll:ls.length<=6)
  (kc_n:∀ {R:Type} {n:Nat} {hq:H} {k:KA R} (v c:Int),3<=n->0<=v->v<n0->c∈ls->aX env (aA env L n) hq nf (nI v::nI c::caps.map A.d) k=k (nI (nx v c)) hq)
  (hv:∀v c:Int,0<=v->v<n0->c∈ls->0<=nx v c/\nx v c<n0):
  aA env L n 118 [nI 0,.d (.ivs ls.length (ints ls)),nI n0,.d (.fn nf caps)] []=some (.tup [.d (.ivs (ordB nx ls (n0+1) 0 [0]).length (ints (ordB nx ls (n0+1) 0 [0]))),.d (.ivs (ordB nx ls (n0+1) 0 [0]).length (aE ((ordB nx ls (n0+1) 0 [0]).map fun v=>(ls.map (nx v)).map (idxU (ordB nx ls (n0+1) 0 [0]))))),.d (.bool true)],[]):=by
 have loop_c:=fun {R:Type} {n:Nat} {k:KE R} (hn:4<=n)=> @aFB nx nf caps n0 R L n hn hL hsz ls hll (fun {R n hq k}=>kc_n) hv k (n0+1) 0 L [0] [] 1 0 om om om rfl rfl rfl (by intro v hv;cases hv) smp (by intro x hx;simp only[Bh]at hx;subst hx;omega);have e:ints [0]=[.int .i64 0]:=rfl;simp only[Ao,EF,e]at loop_c;have hdl:((ordB nx ls (n0+1) 0 [0]).map fun v=>(ls.map (nx v)).map (idxU (ordB nx ls (n0+1) 0 [0]))).length=(ordB nx ls (n0+1) 0 [0]).length:=Am _;generalize((ordB nx ls (n0+1) 0 [0]).map fun v=>(ls.map (nx v)).map (idxU (ordB nx ls (n0+1) 0 [0])))=d at *;generalize ordB nx ls (n0+1) 0 [0]=w at *;have e4:(ints w).take w.length=ints w:=by rw[cI (Ab _)]
 have e5:(aE d).take w.length=aE d:=kY om;have e6:(aE d).length=w.length:=by rw[jY,hdl]
 clear kc_n hv;obtain _|n:=n;omega
 simp-implicitDefEqProofs (maxSteps:=9^7) (disch:=try exact Dz) only[↓DN,↓kAsg,↓kRet,UP,simprocAttr,e4,e5,e6,↓loop_c,↓aNQ,aT9,Ab,aBD,JF,Tryz.f118]
end
end
section
variable{R:Type}{L n:Nat}
theorem aMJ(hn:1<=n){a:Aut}(ha:AOK a){x c:Int}(x0:0<=x)(x1:x<a.nx.length)(hc0:0<=c)(hc6:c<6):
  aA env L n 119 [nI x,nI c,.d (tabP a)] []=some (nI (goS a x c),[]):=by
 obtain⟨sa,wa,a1,a2,a3⟩:=aR ha;have hla:=iB a.al a.nx;have hta:=QY (al:=a.al) x0 x1 hc0 hc6;rw[Cj]at hta;unfold goS tabP;have d1:x.toNat*6<=a.nx.length*6:=om;have d3:c.toNat<a.nx.length*6-x.toNat*6:=om;generalize goI a.al a.nx x c=g1 at *;clear ha sa wa;obtain _|n:=n;omega
 simp-implicitDefEqProofs (maxSteps:=9^7) (disch:=try exact Dz) only[↓DN,↓kAsg,↓kRet,UP,simprocAttr,hla,hta,x0,x1,Cg,Cj,aM5,aB0,Tryz.f119]
theorem aQj{hq:H}{k:KA R}(hn:1<=n){a:Aut}(ha:AOK a){x c:Int}(x0:0<=x)(x1:x<a.nx.length)(hc:c∈aB a.al):
  aX env (aA env L n) hq 119 (nI x::nI c::[tabP a].map A.d) k=k (nI (goS a x c)) hq:=by
 have:=cE c hc;exact bS rfl (aMJ hn ha x0 x1 this.1 om) rfl (.inl rfl)
theorem aSW{a:Aut}(h:AOK a):((ordA a).map fun v=>((aB a.al).map (goS a v)).map (idxU (ordA a)))=(a7 a).nx:=by
 obtain⟨W,hB⟩:=nW h;unfold a7;apply Cz;intro v hv;obtain⟨v0,v1⟩:=hB.rng v hv;rw[CW h v0 v1]
theorem aVq{o0 o1 o2 o3 o4:O}{T:H}{k:KA R}(hn:5<=n)(hL:2^60<=L){a:Aut}(ha:AOK a):
  aX env (aA env L n) (o0::o1::o2::o3::o4::.box [.d (.ivs a.nx.length (ints (iF a.al a.nx)))]::T) 118 [nI 0,.d (.ivs (aB a.al).length (ints (aB a.al))),nI (a.nx.length:Int),.clo 119 [.ptr 5 0 0]] k
  =k (.tup [.d (.ivs (ordA a).length (ints (ordA a))),.d (.ivs (ordA a).length (aE (a7 a).nx)),.d (.bool true)]) (o0::o1::o2::o3::o4::.ice [.ivs a.nx.length (ints (iF a.al a.nx))] 1 0::T):=by
 obtain⟨sa,wa,a1,a2,a3⟩:=aR ha;have hev:=@aBs (goS a) 119 [tabP a] a.nx.length L n hn hL om om (aB a.al) (bO a.al) (fun {R n hq k} v c h3 v0 v1 hc=>aQj om ha v0 v1 hc) (fun v c h0 h1 hc=>o7 ha v c h0 h1 hc);have e1:ordB (goS a) (aB a.al) (a.nx.length+1) 0 [0]=ordA a:=rfl;rw[e1,aSW ha]at hev
 have hre:aF aI (o0::o1::o2::o3::o4::O.box [.d (.ivs a.nx.length (ints (iF a.al a.nx)))]::T) [5] []=[5]:=by
  have e1:aF aI (o0::o1::o2::o3::o4::O.box [.d (.ivs a.nx.length (ints (iF a.al a.nx)))]::T) [5] []=aF (aI-1) (o0::o1::o2::o3::o4::O.box [.d (.ivs a.nx.length (ints (iF a.al a.nx)))]::T) [] [5]:=rfl;rw[e1];rfl
 refine kN rN (ids:=[5]) (ord:=[5]) (blk:=[.box [.d (.ivs a.nx.length (ints (iF a.al a.nx)))]]) (blk2:=[.ice [.ivs a.nx.length (ints (iF a.al a.nx))] 1 0]) (fs:=[nI 0,.d (.ivs (aB a.al).length (ints (aB a.al))),nI (a.nx.length:Int),.d (.fn 119 [tabP a])]) ?_ hre rfl ?_ ?_ hev ?_ smp ?_
 ·rfl
 ·rfl
 ·rfl
 ·rfl
 ·simp[bJ,mapO]
theorem aCK{b:List Bool}{x:Bool}:aD b++[.bool x]=aD (b++[x]):=by simp[aD]
theorem aNT(hn:3<=n)(hL:2^60<=L){a:Aut}(ha:AOK a){o:List Int}(ho:o.length<=12)(hor:∀x∈o,0<=x/\x<a.nx.length){al2:Int}{nxd:D}{k:KE R}:∀(j i m:Nat) (b:List Bool) (len e:Nat) (hi:i+j=o.length) (hm:j<m) (hb:b=(o.take i).map fun v=>a.ac.getD v.toNat false) (hlen:i=len) (he:e=if i=0 then 0 else 1),
  aT env (aA env L n) L 0 [] Bz26 (aAs 0) (U1 (Z2 (U4 (Z1 (U16 (U2 (U1 (Z2 (Z1 (U8 (U4 (U2 (U1 ([])))))))))))))) m (Y1 (.ptr 0 0 0::.ptr 1 0 0::Y4 (.ptr 2 0 0::Y16 (Y2 (Y1 (.d (.ivs o.length (ints o))::nI (o.length:Int)::nI i::Y8 (Y4 (Y2 (Y1 ([])))))))))) [.box [nI a.al,.d (.ivs a.nx.length (aE a.nx)),.d (.ivs a.ac.length (aD a.ac))],.box [nI 0,.sl 3 0 0 0,.sl 4 0 0 0],.box [nI al2,.d nxd,.sl 5 0 0 len],.arr [] 0 0,.arr [] 0 0,.arr (aD b) e 0] k
  =k (.exit 0) (Y1 (.ptr 0 0 0::.ptr 1 0 0::Y4 (.ptr 2 0 0::Y16 (Y2 (Y1 (.d (.ivs o.length (ints o))::nI (o.length:Int)::nI (o.length:Int)::Y8 (Y4 (Y2 (Y1 ([])))))))))) [.box [nI a.al,.d (.ivs a.nx.length (aE a.nx)),.d (.ivs a.ac.length (aD a.ac))],.box [nI 0,.sl 3 0 0 0,.sl 4 0 0 0],.box [nI al2,.d nxd,.sl 5 0 0 o.length],.arr [] 0 0,.arr [] 0 0,.arr (aD (o.map fun v=>a.ac.getD v.toNat false)) (if o.length=0 then 0 else 1) 0]:=by
 obtain⟨sa,wa,a1,a2,a3⟩:=aR ha;have hal:=sa.1;intro j
 induction j with
 |zero=>
  intro i m b len e hi hm hb hlen he;obtain _|m:=m;omega;obtain rfl:i=o.length:=om;rw[Ct]at hb;subst hb;subst hlen;subst he
  simp-implicitDefEqProofs (maxSteps:=9^7) (disch:=try exact Dz) only[↓DN,↓kRet,UP,simprocAttr,Ah,GJ,H2,Tryz.f70]
 |succ j ih=>
  intro i m b len e hi hm hb hlen he;obtain _|m:=m;omega;subst hlen;have hio:i<o.length:=om;obtain⟨v0,v1⟩:=hor _ (j3 hio)
  have htk:o.take (i+1)=o.take i++[o.getD i 0]:=by
   rw[Cw,Ad hio,Aa,Ad hio];rfl
  have hbl:b.length=i:=by rw[hb,Am,Bi];omega
  have ih':=ih (i+1) m (b++[a.ac.getD (o.getD i 0).toNat false]) (i+1) 1 om om (by rw[htk,hb,Cn];rfl) rfl (by rw[if_neg om]);rw[cs1 i]at ih';have hc:(i:Int)<o.length:=om;have hi0:(0:Int)<=i:=om;clear ih hor hb htk;generalize hv:o.getD i 0=v at *;have hva2:v<a.ac.length:=om;have ht2:(aD b).take i=aD b:=gQ om;have hi12:i<=12:=om
  by_cases hz:i=0
  ·obtain rfl:e=0:=by rw[he,if_pos hz]
   clear he hz
   simp-implicitDefEqProofs (maxSteps:=9^7) (disch:=try exact Dz) only[↓DN,↓kRet,UP,simprocAttr,LA,hc,hi0,hv,v0,hva2,ht2,aCK,↓ih',GJ,H2,Tryz.f70]
  ·obtain rfl:e=1:=by rw[he,if_neg hz]
   clear he hz
   simp-implicitDefEqProofs (maxSteps:=9^7) (disch:=try exact Dz) only[↓DN,↓kRet,UP,simprocAttr,LA,hc,hi0,hv,v0,hva2,ht2,aCK,↓ih',GJ,H2,Tryz.f70]
theorem aRG(hn:9<=n)(a:Aut)(ha:AOK a)(hL:2^60<=L):aA env L n 70 [.agg [nI a.al,.d (.ivs a.nx.length (aE a.nx)),.d (.ivs a.ac.length (aD a.ac))]] []=some (.agg [.d (.int .i64 (a7 a).al),.d (.ivs (a7 a).nx.length (aE (a7 a).nx)),.d (.ivs (a7 a).ac.length (aD (a7 a).ac))],[]):=by
 obtain⟨sa,wa,a1,a2,a3⟩:=aR ha;obtain⟨W,hB⟩:=nW ha;have hl:=eB hB.nod hB.rng;have hp:=hB.pos;have loop_c:=fun {R:Type} {n:Nat} {al2:Int} {nxd:D} {k:KE R} (hn:3<=n)=> @aNT R L n hn hL a ha (ordA a) om hB.rng al2 nxd k (ordA a).length 0 L [] 0 0 om om rfl rfl rfl;have kc_q:=fun {R:Type} {n:Nat} {o0 o1 o2 o3 o4:O} {T:H} {k:KA R} (hn:5<=n)=> @aVq R L n o0 o1 o2 o3 o4 T k hn hL a ha;simp only[Ao,M7]at loop_c;rw[if_neg om]at loop_c;have hx1:(a7 a).nx.length=(ordA a).length:=Am _;have hx2:(a7 a).ac.length=(ordA a).length:=Am _;have hx3:(a7 a).al=a.al:=rfl;have e2:((ordA a).map fun v=>a.ac.getD v.toNat false)=(a7 a).ac:=rfl;rw[e2]at loop_c;rw[hx1,hx2,hx3];have ht2:(aD (a7 a).ac).take (ordA a).length=aD (a7 a).ac:=gQ om;have hb1:(aD (a7 a).ac).length=(ordA a).length:=by rw[cX,hx2]
 have hla:=iB a.al a.nx;clear hB e2;generalize(a7 a).nx=w1 at *;generalize(a7 a).ac=w2 at *;generalize ordA a=w at *;obtain _|n:=n;omega
 simp-implicitDefEqProofs (maxSteps:=9^7) (disch:=try exact Dz) only[↓DN,↓kRet,UP,simprocAttr,↓AV,↓jG,↓kc_q,↓loop_c,ht2,hb1,Ab,Bj,aQN,aMZ,Tryz.f70]
end
section
variable{R:Type}{L n:Nat}
theorem aWa{d:List (List Int)}(h:0<d.length):eR d=1:=by
 unfold eR;rw[if_neg (by rintro rfl;simp at h)]
theorem aBk(hn:3<=n)(hL:2^60<=L){a:Aut}{cl:List Int}(hcl:cl.length=a.nx.length)(hal:a.nx.length<=12){rw0:List Int}(hr6:rw0.length<=6)(hrr:∀x∈rw0,0<=x/\x<a.nx.length){q al2:Int}{d e:Nat}{cn cs2:List D}{k:KE R}:∀(j p m:Nat) (r:List Int) (len:Nat) (hp:p+j=rw0.length) (hm:j<m) (hlen:len=r.length) (hr2:r.length+j<=1000),
  aT env (aA env L n) L 0 (W4 (W2 (W1 [2]))) Bz5 (qQ 1) (U1 (Z4 (Z1 (U1 (Z1 (U4 (U2 (U1 (Z2 (Z1 (U8 (U4 (U1 (Z2 (Z1 (U16 (U8 (U4 (U2 ([])))))))))))))))))))) m (Y1 (.ptr 0 0 0::.ptr 1 0 0::.d (.ivs a.nx.length (ints cl))::.ptr 2 0 0::nI q::Y1 (.sl 3 0 0 len::Y4 (Y2 (Y1 (.d (.ivs a.nx.length (ints cl))::nI (a.nx.length:Int)::nI q::Y8 (Y4 (Y1 (.d (.ivs rw0.length (ints rw0))::nI (rw0.length:Int)::nI p::Y16 (Y8 (Y4 (Y2 ([]))))))))))))) [.box [nI a.al,.d (.ivs a.nx.length (aE a.nx)),.d (.ivs a.ac.length (aD a.ac))],.box [nI 0,.sl 4 0 0 0,.sl 5 0 0 0],.box [nI al2,.sl 6 0 0 d,.sl 7 0 0 d],.arr (ints r) 1 0,.arr [] 0 0,.arr [] 0 0,.arr cn e 0,.arr cs2 e 0] k
  =k (.exit 2) (Y1 (.ptr 0 0 0::.ptr 1 0 0::.d (.ivs a.nx.length (ints cl))::.ptr 2 0 0::nI q::Y1 (.sl 3 0 0 (r++(rw0.drop p).map (clA cl)).length::Y4 (Y2 (Y1 (.d (.ivs a.nx.length (ints cl))::nI (a.nx.length:Int)::nI q::Y8 (Y4 (Y1 (.d (.ivs rw0.length (ints rw0))::nI (rw0.length:Int)::nI (rw0.length:Int)::Y16 (Y8 (Y4 (Y2 ([]))))))))))))) [.box [nI a.al,.d (.ivs a.nx.length (aE a.nx)),.d (.ivs a.ac.length (aD a.ac))],.box [nI 0,.sl 4 0 0 0,.sl 5 0 0 0],.box [nI al2,.sl 6 0 0 d,.sl 7 0 0 d],.arr (ints (r++(rw0.drop p).map (clA cl))) 1 0,.arr [] 0 0,.arr [] 0 0,.arr cn e 0,.arr cs2 e 0]:=by
 intro j
 induction j with
 |zero=>
  intro p m r len hp hm hlen hr2;obtain _|m:=m;omega;obtain rfl:p=rw0.length:=om;subst hlen;rw[Bt,Ar,Aj]
  simp-implicitDefEqProofs (maxSteps:=9^7) (disch:=try exact Dz) only[↓DN,↓kRet,UP,simprocAttr,Ah,HS,DK,Tryz.f33]
 |succ j ih=>
  intro p m r len hp hm hlen hr2;obtain _|m:=m;omega;subst hlen;have hk:p<rw0.length:=om;have hc:(p:Int)<rw0.length:=om;have hp0:(0:Int)<=p:=om;obtain⟨x0,x1⟩:=hrr _ (j3 hk);have x2:rw0.getD p 0<cl.length:=om;have ih':=ih (p+1) m (r++[clA cl (rw0.getD p 0)]) (r.length+1) om om smp (by simp;omega);rw[cs1 p]at ih';simp only[Al,Dl]at ih';rw[YM hk];have hr100:r.length<=1000:=om;clear ih hrr;generalize(rw0.drop (p+1)).map (clA cl)=w at *;unfold clA at *;generalize hx:rw0.getD p 0=x at *;generalize hci:cl.getD x.toNat 0=ci at *
  simp-implicitDefEqProofs (maxSteps:=9^7) (disch:=try exact Dz) only[↓DN,↓kRet,UP,simprocAttr,hc,hp0,hx,x0,x1,hci,hcl,↓ih',HS,DK,Tryz.f33]
theorem aBP{b:List Bool}{x:Bool}:aD b++[.bool x]=aD (b++[x]):=by simp[aD]
theorem aBf(hn:3<=n)(hL:2^60<=L){a:Aut}(ha:AOK a){cl:List Int}(hcl:cl.length=a.nx.length){al2:Int}{k:KE R}:∀(j q m:Nat) (d:List (List Int)) (b:List Bool) (len:Nat) (hq:q+j=a.nx.length) (hm:j<m) (hlen:len=d.length) (hb:b.length=d.length) (hdq:d.length<=q),
  aT env (aA env L n) L 0 (W4 (W2 (W1 [2]))) Bz5 (qQ 0) (U1 (Z4 (U8 (U2 (Z2 (Z1 (U32 (U8 (U4 (U2 ([]))))))))))) m (Y1 (.ptr 0 0 0::.ptr 1 0 0::.d (.ivs a.nx.length (ints cl))::.ptr 2 0 0::Y8 (Y2 (.d (.ivs a.nx.length (ints cl))::nI (a.nx.length:Int)::nI q::Y32 (Y8 (Y4 (Y2 ([])))))))) [.box [nI a.al,.d (.ivs a.nx.length (aE a.nx)),.d (.ivs a.ac.length (aD a.ac))],.box [nI 0,.sl 3 0 0 0,.sl 4 0 0 0],.box [nI al2,.sl 5 0 0 len,.sl 6 0 0 len],.arr [] 0 0,.arr [] 0 0,.arr (aE d) (eR d) 0,.arr (aD b) (eR d) 0] k
  =k (.exit 0) (Y1 (.ptr 0 0 0::.ptr 1 0 0::.d (.ivs a.nx.length (ints cl))::.ptr 2 0 0::Y8 (Y2 (.d (.ivs a.nx.length (ints cl))::nI (a.nx.length:Int)::nI (a.nx.length:Int)::Y32 (Y8 (Y4 (Y2 ([])))))))) [.box [nI a.al,.d (.ivs a.nx.length (aE a.nx)),.d (.ivs a.ac.length (aD a.ac))],.box [nI 0,.sl 3 0 0 0,.sl 4 0 0 0],.box [nI al2,.sl 5 0 0 (quoG a cl j q d b).1.length,.sl 6 0 0 (quoG a cl j q d b).1.length],.arr [] 0 0,.arr [] 0 0,.arr (aE (quoG a cl j q d b).1) (eR (quoG a cl j q d b).1) 0,.arr (aD (quoG a cl j q d b).2) (eR (quoG a cl j q d b).1) 0]:=by
 obtain⟨sa,wa,a1,a2,a3⟩:=aR ha;have hal:=sa.1;intro j
 induction j with
 |zero=>
  intro q m d b len hq hm hlen hb hdq;obtain _|m:=m;omega;obtain rfl:q=a.nx.length:=om;subst hlen;have e:quoG a cl 0 a.nx.length d b=(d,b):=rfl;rw[e]
  simp-implicitDefEqProofs (maxSteps:=9^7) (disch:=try exact Dz) only[↓DN,↓kRet,UP,simprocAttr,Ah,nL,oB,Tryz.f33]
 |succ j ih=>
  intro q m d b len hq hm hlen hb hdq;obtain _|m:=m;omega;subst hlen;have hqc:(q:Int)<a.nx.length:=om;have hql:(q:Int)<cl.length:=om;have hq0:(0:Int)<=q:=om;have hqa:(q:Int)<a.ac.length:=om;unfold quoG
  by_cases hlt:cl.getD q 0<d.length
  ·rw[if_pos hlt];have ih':=ih (q+1) m d b d.length om om rfl hb om;rw[cs1 q]at ih';clear ih;generalize quoG a cl j (q+1) d b=z at *
   simp-implicitDefEqProofs (maxSteps:=9^7) (disch:=try exact Dz) only[↓DN,↓kRet,UP,simprocAttr,hqc,hq0,hcl,hlt,↓ih',nL,oB,Tryz.f33]
  ·rw[if_neg hlt];have hrow:=(gC ha (i:=q) om).1;have hll:=bO a.al
   have hrr:∀x∈a.nx.getD q [],0<=x/\x<a.nx.length:=by
    intro x hx;have hm2:=CW ha (v:=(q:Int)) om om;unfold rowA at hm2;rw[Ca]at hm2;rw[<-hm2]at hx;obtain⟨l,hl,rfl⟩:=Bd.1 hx;exact o7 ha q l om om hl
   have loop_c:=fun {R:Type} {n:Nat} {d e:Nat} {cn cs2:List D} {k:KE R} (hn:3<=n)=> @aBk R L n hn hL a cl hcl a2 (a.nx.getD q []) om hrr (q:Int) al2 d e cn cs2 k (a.nx.getD q []).length 0 L [] 0 om om rfl (by rw[Ac];omega);rw[Ay]at loop_c;simp only[Ao,Aq,kA]at loop_c;have ih':=ih (q+1) m (d++[(a.nx.getD q []).map (clA cl)]) (b++[acQ a q]) (d.length+1) om om smp (by simp[hb]) (by simp;omega);rw[cs1 q,aUO]at ih';have hw6:((a.nx.getD q []).map (clA cl)).length<=6:=by rw[Am];omega
   have ht:(aE d).take d.length=aE d:=kY (Ab _);have ht2:(aD b).take d.length=aD b:=gQ om;have hd12:d.length<=12:=om;clear ih hrr;unfold acQ at *;rw[Ca]at ih'|-;generalize quoG a cl j (q+1) (d++[(a.nx.getD q []).map (clA cl)]) (b++[a.ac.getD q false])=z at *;generalize(a.nx.getD q []).map (clA cl)=w at *;have hwt:(ints w).take w.length=ints w:=by rw[cI (Ab _)]
   rcases aWQ d with h1|h1
   ·rw[h1]
    simp-implicitDefEqProofs (maxSteps:=9^7) (disch:=try exact Dz) only[↓DN,↓kAsg,↓kRet,UP,simprocAttr,LA,hqc,hq0,hqa,hcl,hlt,↓loop_c,ht,ht2,hwt,pG,aBP,↓ih',nL,oB,Tryz.f33]
   ·rw[h1]
    simp-implicitDefEqProofs (maxSteps:=9^7) (disch:=try exact Dz) only[↓DN,↓kAsg,↓kRet,UP,simprocAttr,LA,hqc,hq0,hqa,hcl,hlt,↓loop_c,ht,ht2,hwt,pG,aBP,↓ih',nL,oB,Tryz.f33]
theorem aTw{o0 o1 o2 o3 o4:O}{T:H}{k:KA R}(hn:9<=n)(hL:2^60<=L){a:Aut}(ha:AOK a):
  aX env (aA env L n) (o0::o1::o2::o3::o4::.arr (aE a.nx) 1 0::.arr (aD a.ac) 1 0::T) 70 [.agg [nI a.al,.sl 5 0 0 a.nx.length,.sl 6 0 0 a.nx.length]] k
  =k (.agg [.d (.int .i64 (a7 a).al),.d (.ivs (a7 a).nx.length (aE (a7 a).nx)),.d (.ivs (a7 a).ac.length (aD (a7 a).ac))]) (o0::o1::o2::o3::o4::.ice (aE a.nx) 1 0::.ice (aD a.ac) 1 0::T):=by
 obtain⟨sa,wa,a1,a2,a3⟩:=aR ha;have hev:=@aRG L n hn a ha hL
 have hre:aF aI (o0::o1::o2::o3::o4::O.arr (aE a.nx) 1 0::O.arr (aD a.ac) 1 0::T) [5,6] []=[5,6]:=by
  have e1:aF aI (o0::o1::o2::o3::o4::O.arr (aE a.nx) 1 0::O.arr (aD a.ac) 1 0::T) [5,6] []=aF (aI-2) (o0::o1::o2::o3::o4::O.arr (aE a.nx) 1 0::O.arr (aD a.ac) 1 0::T) [] [5,6]:=rfl;rw[e1];rfl
 refine kN PP (ids:=[5,6]) (ord:=[5,6]) (blk:=[.arr (aE a.nx) 1 0,.arr (aD a.ac) 1 0]) (blk2:=[.ice (aE a.nx) 1 0,.ice (aD a.ac) 1 0]) (fs:=[.agg [nI a.al,.d (.ivs a.nx.length (aE a.nx)),.d (.ivs a.ac.length (aD a.ac))]]) ?_ hre rfl ?_ ?_ hev ?_ smp ?_
 ·rfl
 ·simp[d6,frzA,frzL,eC,frz,frz0,aG,mapA,aJ,deep,jY,cX,a3,Ce]
 ·rfl
 ·rfl
 ·simp[bJ,mapO]
theorem VM(hn:10<=n)(a:Aut)(ha:AOK a)(hL:2^60<=L):aA env L n 33 [.agg [nI a.al,.d (.ivs a.nx.length (aE a.nx)),.d (.ivs a.ac.length (aD a.ac))]] []=some (.agg [.d (.int .i64 (minA a).al),.d (.ivs (minA a).nx.length (aE (minA a).nx)),.d (.ivs (minA a).ac.length (aD (minA a).ac))],[]):=by
 obtain⟨sa,wa,a1,a2,a3⟩:=aR ha;have hal:=sa.1;have hcl:=E4 ha;have hqo:=(QI ha).ok;obtain⟨_,_,q1,q2,q3⟩:=aR hqo;have loop_c:=fun {R n k} hn=> @aBf R L n hn hL a ha (a8 a) hcl a.al k a.nx.length 0 L [] [] 0 om om rfl rfl smp;have e1:(quoG a (a8 a) a.nx.length 0 [] []).1=(quoA a).nx:=rfl;have e2:(quoG a (a8 a) a.nx.length 0 [] []).2=(quoA a).ac:=rfl;rw[e1,e2,aWG,aWa om]at loop_c;simp only[Ao,EF,M7]at loop_c;have kc_q:=fun {R:Type} {n:Nat} {o0 o1 o2 o3 o4:O} {T:H} {k:KA R} (hn:9<=n)=> @aTw R L n o0 o1 o2 o3 o4 T k hn hL (quoA a) hqo;have kc_c:=@aHL L a ha hL;have e3:a7 (quoA a)=minA a:=rfl;have e4:(quoA a).al=a.al:=rfl;rw[e3,e4]at kc_q;rw[hcl]at kc_c;clear e1 e2 e3 e4;generalize minA a=x at *;generalize(quoA a).nx=w1 at *;generalize(quoA a).ac=w2 at *;generalize a8 a=cl at *;obtain _|n:=n;omega
 simp-implicitDefEqProofs (maxSteps:=9^7) (disch:=try exact Dz) only[↓DN,↓kRet,UP,simprocAttr,↓kc_c,↓loop_c,↓kc_q,Ab,aJZ,aAQ,Tryz.f33]
theorem aJ7:type_of% fun {L} a ha hL=>ks fun hn=> @VM L _ hn a ha hL:=fun {L} a ha hL=>ks fun hn=> @VM L _ hn a ha hL
theorem wS(hn:11<=n)(a:Aut)(ha:AOK a)(hL:2^60<=L):aA env L n 13 [.agg [nI a.al,.d (.ivs a.nx.length (aE a.nx)),.d (.ivs a.ac.length (aD a.ac))]] []=some (.tup [.agg [.d (.int .i64 (minA a).al),.d (.ivs (minA a).nx.length (aE (minA a).nx)),.d (.ivs (minA a).ac.length (aD (minA a).ac))],.d (.bool true)],[]):=by
 obtain⟨sa,wa,a1,a2,a3⟩:=aR ha;have hrl:=sa.1;have hac:a.ac.length<=4294967296:=om;have kc_t:=@aJ7 L a ha hL;unfold AOK at ha;generalize minA a=x at *;obtain _|n:=n;omega
 simp-implicitDefEqProofs (maxSteps:=9^7) (disch:=try exact Dz) only[↓DN,↓kAsg,↓kRet,UP,simprocAttr,↓bB,ha,↓kc_t,PG,yY,Tryz.f13]
theorem QA:type_of% fun {L} a ha hL=>ks fun hn=> @wS L _ hn a ha hL:=fun {L} a ha hL=>ks fun hn=> @wS L _ hn a ha hL
end
theorem aHE{a b:Aut}{x:Int}{l:List Str}(hs:dE a x=some l)(h:A4 a b=true):zO a b x=true:=by
 obtain⟨ha,hb,hal,hw⟩:=aC9.1 h;refine aTY.2 ⟨l,hs,uE.2 ⟨ha,hb,hal⟩,fun w hm=> ?_⟩;obtain⟨u,rfl,hu⟩:=aO9 hs hm;rw[aMn hu,aMn (hal▸hu),hw u hu]
theorem aS4{a:Aut}(h:AOK a):A4 a (minA a)=true:=aC9.2 ⟨h,aSd h,rfl,fun w hw=>(aVf h hw).symm⟩
theorem aQw{a:Aut}(h:AOK a):A4 a a=true:=aC9.2 ⟨h,h,rfl,fun w hw=>rfl⟩
theorem aGF{L n:Nat}(hn:32<=n)(c:List UInt8)(hL:2^60<=L):aA env L n 6 [.d (.ivs c.length (bM c))] []=some (.d (.bool true),[]):=by
 by_cases hsz:(1048576:Int)<c.length
 ·obtain _|n:=n;omega
  simp-implicitDefEqProofs (maxSteps:=9^7) (disch:=try exact Dz) only[↓DN,↓kAsg,↓kRet,UP,simprocAttr,hsz,mU,lI,Tryz.f6]
 ·obtain⟨a,b,x,b1,b2,x0,x1,kd⟩:=YX c om;have sa:=b1.short om;have sb:=b2.short om;have ha:a.ac.length<=4294967296:=by have:=b1.a;omega
  have hb:b.ac.length<=4294967296:=by have:=b2.a;omega
  unfold autD at kd;have kc_f:=@yK L a b x sa sb ha hb hL;have kc_g:=@aDR L a b x sa sb ha hb hL;have hI:=fun {n:Nat} (hn:15<=n)=>CS (L:=L) hn a x sa ha hL
  cases hG:dE a x with
  |none=>
   rw[hG]at hI;have kc_1:=fun {R:Type} {n:Nat} {hq:H} {k:KA R} (hn:15<=n)=>G3 (h:=hq) (k:=k) rfl eL (hI hn);have hp:zO a b x=false:=by unfold zO;rw[hG];rfl
   rw[hp]at kc_f kc_g;clear hI;obtain _|n:=n;omega
   simp-implicitDefEqProofs (maxSteps:=9^7) (disch:=try exact Dz) only[↓DN,↓kAsg,↓kRet,UP,simprocAttr,hsz,↓kd,↓kc_f,↓kc_g,↓kc_1,mU,lI,Tryz.f6]
  |some l=>
   rw[hG]at hI;have kc_1:=fun {R:Type} {n:Nat} {hq:H} {k:KA R} (hn:15<=n)=>PO (h:=hq) (k:=k) rfl eL (hI hn);obtain⟨va,y0,_,_,hl⟩:=EP hG;have kc_m:=@QA L a va hL;obtain⟨sm,_,m1,m2,m3⟩:=aR (aSd va);have kc_s:=@aBz L a b sa sb ha hb hL;have kc_p:=@yK L a a x sa sa ha ha hL;have kc_q:=@yK L a (minA a) x sa sm ha om hL;rw[aHE hG (aQw va)]at kc_p;rw[aHE hG (aS4 va)]at kc_q;have hs:A4 a b=true->zO a b x=true:=aHE hG;clear hI hG va;generalize minA a=ma at *;have hq1:∀p:Bool,(p==p)=true:=smp;have hq2:∀p:Bool,(p !=p)=false:=smp
   cases hp:zO a b x with
   |true=>
    rw[hp]at kc_f kc_g;clear hs;generalize A4 a b=s at *
    cases s with
    |true=>
     obtain _|n:=n;omega
     simp-implicitDefEqProofs (maxSteps:=9^7) (disch:=try exact Dz) only[↓DN,↓kAsg,↓kRet,UP,simprocAttr,hsz,↓kd,↓kc_f,↓kc_g,↓kc_1,↓kc_m,↓kc_s,↓kc_p,↓kc_q,mU,lI,Tryz.f6]
    |false=>
     obtain _|n:=n;omega
     simp-implicitDefEqProofs (maxSteps:=9^7) (disch:=try exact Dz) only[↓DN,↓kAsg,↓kRet,UP,simprocAttr,hsz,↓kd,↓kc_f,↓kc_g,↓kc_1,↓kc_m,↓kc_s,↓kc_p,↓kc_q,mU,lI,Tryz.f6]
   |false=>
    rw[hp]at kc_f kc_g hs
    have hs2:A4 a b=false:=by cases h:A4 a b with
     |true=>exact absurd (hs h) smp
     |false=>rfl
    rw[hs2]at kc_s;clear hs hs2;obtain _|n:=n;omega
    simp-implicitDefEqProofs (maxSteps:=9^7) (disch:=try exact Dz) only[↓DN,↓kAsg,↓kRet,UP,simprocAttr,hsz,↓kd,↓kc_f,↓kc_g,↓kc_1,↓kc_m,↓kc_s,↓kc_p,↓kc_q,mU,lI,Tryz.f6]
end Ev
end Go.Proofs.YthlkcebdfbjdoaaGreatDoor
