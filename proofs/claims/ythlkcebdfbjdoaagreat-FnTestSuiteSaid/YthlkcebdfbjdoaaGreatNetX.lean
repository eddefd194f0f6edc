/-
  Products as the reference searches them, walked: where a letter leads.
-/
import Derived.Test.YthlkcebdfbjdoaaGreatNetW
import Derived.Test.YthlkcebdfbjdoaaGreatAutoL
set_option linter.unusedSimpArgs false
set_option linter.unusedVariables false
set_option maxRecDepth 8000
set_option maxHeartbeats 4000000
namespace Go.Proofs.YthlkcebdfbjdoaaGreat
namespace Ev
variable{R:Type}{L n:Nat}
theorem aJC(hn:1<=n){l:List Int}{x:Int}(hl:l.length<=4294967290){k:KE R}:∀(j i m:Nat) (hi:i+j=l.length) (hm:j<m),
  aM env (aA env L n) L 0 [] Bz14 (CQ 0) Bz43 m (.d (.ivs l.length (ints l))::nI x::Y2 (.d (.bool false)::nI i::Y8 (Y4 ([])))) [] k
  =match seek (fun i=>decide (l.getD i 0=x)) j i with
   |none=>k (.exit 0) (.d (.ivs l.length (ints l))::nI x::Y2 (.d (.bool false)::nI (l.length)::Y8 (Y4 ([])))) []
   |some q=>k .ret (.d (.ivs l.length (ints l))::nI x::Y2 (.d (.bool true)::nI q::Y8 (Y4 ([])))) []:=by
 intro j
 induction j with
 |zero=>
  intro i m hi hm;obtain _|m:=m;omega;obtain rfl:i=l.length:=by omega
  simp -implicitDefEqProofs (maxSteps:=2000000) (disch:=try exact Dz) only[↓DN,↓kRet,UP,simprocAttr,Aj,EE,E8,Tryz.f128];rfl
 |succ j ih=>
  intro i m hi hm;obtain _|m:=m;omega;have hk:i<l.length:=by omega
  have hc:(i:Int)<l.length:=by omega
  have hi0:(0:Int)<=i:=by omega
  by_cases he:l.getD i 0=x
  ·rw[kH (p:=fun i=>decide (l.getD i 0=x)) (by simpa using he)];simp -implicitDefEqProofs (maxSteps:=2000000) (disch:=try exact Dz) only[↓DN,↓kAsg,↓kRet,UP,simprocAttr,hc,hi0,he,EE,E8,Tryz.f128]
  ·rw[mQ (p:=fun i=>decide (l.getD i 0=x)) (by simpa using he)];have ih':=ih (i+1) m (by omega) (by omega);rw[cs1 i]at ih';clear ih;simp -implicitDefEqProofs (maxSteps:=2000000) (disch:=try exact Dz) only[↓DN,↓kRet,UP,simprocAttr,hc,hi0,he,↓ih',EE,E8,Tryz.f128]
theorem aE1(hn:2<=n)(l:List Int)(x:Int)(hl:l.length<=4294967290)(hL:2^60<=L):aA env L n 128 [.d (.ivs l.length (ints l)),nI x] []=some (.d (.bool (decide (x∈l))),[]):=by
 have loop_c:=fun {R n k} hn=> @aJC R L n hn l x hl k l.length 0 L (by omega) (by omega);simp only[Aq]at loop_c
 cases hs:seek (fun i=>decide (l.getD i 0=x)) l.length 0 with
 |none=>
  have hx:¬x∈l:=by
   intro hx;obtain⟨q,hq,e⟩:=Cl hx;have:=sF.1 hs q (by omega) (by omega);simp only[decide_eq_false_iff_not]at this;exact this (by rw[Aa,Ae hq,e];rfl)
  simp only[hs]at loop_c;obtain _|n:=n;omega;simp -implicitDefEqProofs (maxSteps:=2000000) (disch:=try exact Dz) only[↓DN,↓kAsg,UP,simprocAttr,↓loop_c,hx,aFh,aAN,Tryz.f128]
 |some q=>
  obtain⟨h1,h2,h3,_⟩:=KF hs
  have hx:x∈l:=by
   simp only[decide_eq_true_eq]at h3;rw[<-h3];exact lN (by omega)
  simp only[hs]at loop_c;obtain _|n:=n;omega;simp -implicitDefEqProofs (maxSteps:=2000000) (disch:=try exact Dz) only[↓DN,↓kAsg,UP,simprocAttr,↓loop_c,hx,aFh,aAN,Tryz.f128]
theorem aFP:type_of% fun {L} l x hl hL=>kt fun hn=> @aE1 L _ hn l x hl hL:=fun {L} l x hl hL=>kt fun hn=> @aE1 L _ hn l x hl hL
theorem BW{L:Nat}{id0 g0 o0 len0:Nat}{x:Int}:KV L 128 [.sl id0 g0 o0 len0,nI x]:=fun _ _ _ _=>dU LS
def OE(dist r:List Int)(d:Int):Nat->Bool:=fun i=>decide (dist.getD (r.getD i 0).toNat 0=d)
def KN(dist:List Int)(mvs:List (List Int))(d:Int):Nat->Bool:=fun k=>(seek (OE dist (mvs.getD k []) d) (mvs.getD k []).length 0).isSome
theorem aI5{α:Type}{l:List α}{p:α->Bool}{q:Nat->Bool}{x:α}(hq:∀i,i<l.length->q i=p (l.getD i x)):(seek q l.length 0).isSome=l.any p:=by
 rw[Bool.eq_iff_iff,Ec,List.any_eq_true]
 constructor
 ·rintro⟨r,hr⟩;obtain⟨_,h2,h3,_⟩:=KF hr;refine⟨l.getD r x,?_,by rw[<-hq r (by omega)];exact h3⟩;rw[Aa,Ae (by omega)];exact Az (by omega)
 ·rintro⟨y,hy,hp⟩;obtain⟨r,hr,e⟩:=Cl hy
  cases hs:seek q l.length 0 with
  |some z=>exact⟨z,rfl⟩
  |none=>
   have:=sF.1 hs r (by omega) (by omega);rw[hq r hr,Aa,Ae hr,Bb,e,hp]at this;cases this
theorem aMu{dist:List Int}{mvs:List (List Int)}{d:Int}:(seek (KN dist mvs d) mvs.length 0).isSome=LD mvs dist d:=by
 unfold LD;refine aI5 (x:=[]) fun k hk=> ?_;unfold KN;exact aI5 (x:=0) fun i hi=>rfl
theorem aCs(hn:1<=n){mvs:List (List Int)}{dist:List Int}{d:Int}{q:Nat}(hq:q<mvs.length)(hl:mvs.length<=4294967290)(hr:(mvs.getD q []).length<=4294967290)(hd:dist.length<=4294967290)(hm':∀x∈mvs.getD q [],0<=x/\x<dist.length){k:KE R}:∀(j i m:Nat) (hi:i+j=(mvs.getD q []).length) (hm:j<m),
  aM env (aA env L n) L 0 [] Bz18 (jU 1) (Z2 (Z1 (U2 (U1 (Z2 (Z1 (U16 (U8 (U2 (U1 ([]))))))))))) m (.d (.ivs mvs.length (aN mvs))::.d (.ivs dist.length (ints dist))::nI d::Y2 (Y1 (.d (.bool false)::nI q::nI i::Y16 (Y8 (Y2 (Y1 ([]))))))) [] k
  =match seek (OE dist (mvs.getD q []) d) j i with
   |none=>k (.exit 2) (.d (.ivs mvs.length (aN mvs))::.d (.ivs dist.length (ints dist))::nI d::Y2 (Y1 (.d (.bool false)::nI q::nI ((mvs.getD q []).length)::Y16 (Y8 (Y2 (Y1 ([]))))))) []
   |some r=>k .ret (.d (.ivs mvs.length (aN mvs))::.d (.ivs dist.length (ints dist))::nI d::Y2 (Y1 (.d (.bool true)::nI q::nI r::Y16 (Y8 (Y2 (Y1 ([]))))))) []:=by
 intro j;have hcq:(q:Int)<mvs.length:=by omega
 have hq0:(0:Int)<=q:=by omega
 induction j with
 |zero=>
  intro i m hi hm;obtain _|m:=m;omega;obtain rfl:i=(mvs.getD q []).length:=by omega
  simp -implicitDefEqProofs (maxSteps:=2000000) (disch:=try exact Dz) only[↓DN,↓kRet,UP,simprocAttr,LA,hcq,hq0,Aj,x8,yJ,Tryz.f152];rfl
 |succ j ih=>
  intro i m hi hm;obtain _|m:=m;omega;have hk:i<(mvs.getD q []).length:=by omega
  have hc:(i:Int)<(mvs.getD q []).length:=by omega
  have hi0:(0:Int)<=i:=by omega
  obtain⟨b1,b2⟩:=hm' _ (lN hk);have b3:((mvs.getD q []).getD i 0).toNat<dist.length:=by omega
  by_cases he:dist.getD ((mvs.getD q []).getD i 0).toNat 0=d
  ·rw[kH (p:=OE dist (mvs.getD q []) d) (by simpa [OE]using he)];simp -implicitDefEqProofs (maxSteps:=2000000) (disch:=try exact Dz) only[↓DN,↓kAsg,↓kRet,UP,simprocAttr,LA,hcq,hq0,hc,hi0,b1,b2,he,x8,yJ,Tryz.f152]
  ·rw[mQ (p:=OE dist (mvs.getD q []) d) (by simpa [OE]using he)];have ih':=ih (i+1) m (by omega) (by omega);rw[cs1 i]at ih';clear ih;simp -implicitDefEqProofs (maxSteps:=2000000) (disch:=try exact Dz) only[↓DN,↓kRet,UP,simprocAttr,LA,hcq,hq0,hc,hi0,b1,b2,he,↓ih',x8,yJ,Tryz.f152]
theorem aCl(hn:1<=n)(hL:2^60<=L){mvs:List (List Int)}{dist:List Int}{d:Int}(hl:mvs.length<=4294967290)(hr:∀r∈mvs,r.length<=4294967290/\∀x∈r,0<=x/\x<dist.length)(hd:dist.length<=4294967290){k:KE R}:∀(j q m:Nat) (hi:q+j=mvs.length) (hm:j<m),
  aM env (aA env L n) L 0 [] Bz18 (jU 0) (Z2 (Z1 (U2 (U1 (Z2 (U16 (U8 (U4 ([]))))))))) m (.d (.ivs mvs.length (aN mvs))::.d (.ivs dist.length (ints dist))::nI d::Y2 (Y1 (.d (.bool false)::nI q::Y16 (Y8 (Y4 ([])))))) [] k
  =match seek (KN dist mvs d) j q with
   |none=>k (.exit 0) (.d (.ivs mvs.length (aN mvs))::.d (.ivs dist.length (ints dist))::nI d::Y2 (Y1 (.d (.bool false)::nI (mvs.length)::Y16 (Y8 (Y4 ([])))))) []
   |some r=>k .ret (.d (.ivs mvs.length (aN mvs))::.d (.ivs dist.length (ints dist))::nI d::Y2 (Y1 (.d (.bool true)::nI r::Y16 (Y8 (Y4 ([])))))) []:=by
 intro j
 induction j with
 |zero=>
  intro q m hi hm;obtain _|m:=m;omega;obtain rfl:q=mvs.length:=by omega
  simp -implicitDefEqProofs (maxSteps:=2000000) (disch:=try exact Dz) only[↓DN,↓kRet,UP,simprocAttr,Aj,zB,xX,Tryz.f152];rfl
 |succ j ih=>
  intro q m hi hm;obtain _|m:=m;omega;have hk:q<mvs.length:=by omega
  have hc:(q:Int)<mvs.length:=by omega
  have hq0:(0:Int)<=q:=by omega
  have hmem:mvs.getD q []∈mvs:=by rw[Aa,Ae hk];exact Az hk
  obtain⟨r1,r2⟩:=hr _ hmem;have loop_c:=fun {R n k} hn=> @aCs R L n hn mvs dist d q hk hl r1 hd r2 k (mvs.getD q []).length 0 L (by omega) (by omega);simp only[Aq]at loop_c
  cases hs:seek (OE dist (mvs.getD q []) d) (mvs.getD q []).length 0 with
  |some z=>
   rw[kH (p:=KN dist mvs d) (by unfold KN;rw[hs];rfl)];simp only[hs]at loop_c;simp -implicitDefEqProofs (maxSteps:=2000000) (disch:=try exact Dz) only[↓DN,↓kAsg,↓kRet,UP,simprocAttr,hc,↓loop_c,zB,xX,Tryz.f152]
  |none=>
   rw[mQ (p:=KN dist mvs d) (by unfold KN;rw[hs];rfl)];simp only[hs]at loop_c;have ih':=ih (q+1) m (by omega) (by omega);rw[cs1 q]at ih';clear ih;simp -implicitDefEqProofs (maxSteps:=2000000) (disch:=try exact Dz) only[↓DN,↓kAsg,↓kRet,UP,simprocAttr,hc,↓loop_c,↓ih',zB,xX,Tryz.f152]
theorem ZJ(hn:2<=n)(mvs:List (List Int))(dist:List Int)(d:Int)(hl:mvs.length<=4294967290)(hr:∀r∈mvs,r.length<=4294967290/\∀x∈r,0<=x/\x<dist.length)(hd:dist.length<=4294967290)(hL:2^60<=L):aA env L n 152 [.d (.ivs mvs.length (aN mvs)),.d (.ivs dist.length (ints dist)),nI d] []=some (.d (.bool (LD mvs dist d)),[]):=by
 have loop_c:=fun {R n k} hn=> @aCl R L n hn hL mvs dist d hl hr hd k mvs.length 0 L (by omega) (by omega);simp only[Aq]at loop_c;rw[<-aMu]
 cases hs:seek (KN dist mvs d) mvs.length 0 with
 |none=>
  simp only[hs]at loop_c;obtain _|n:=n;omega;simp -implicitDefEqProofs (maxSteps:=2000000) (disch:=try exact Dz) only[↓DN,↓kAsg,UP,simprocAttr,↓loop_c,X5,N6,Tryz.f152]
 |some q=>
  simp only[hs]at loop_c;obtain _|n:=n;omega;simp -implicitDefEqProofs (maxSteps:=2000000) (disch:=try exact Dz) only[↓DN,↓kAsg,UP,simprocAttr,↓loop_c,X5,N6,Tryz.f152]
theorem aJv:type_of% fun {L} mvs dist d hl hr hd hL=>kt fun hn=> @ZJ L _ hn mvs dist d hl hr hd hL:=fun {L} mvs dist d hl hr hd hL=>kt fun hn=> @ZJ L _ hn mvs dist d hl hr hd hL
theorem QA{L:Nat}{id1 g1 o1 len1:Nat}{mvs:List (List Int)}{d:Int}:KV L 152 [.d (.ivs mvs.length (aN mvs)),.sl id1 g1 o1 len1,nI d]:=fun _ _ _ _=>dU ED
theorem aNZ(hn:1<=n)(N:Net)(states:List Int)(i:Nat)(hi:i<N.us.length)(h1:N.ps.length<=1000)(h2:N.us.length<=1000)(hs:N.ps.length+i<states.length)(hs2:states.length<=4000)(ha:(N.us.getD i default).ac.length<=4294967290)(hq0:0<=states.getD (N.ps.length+i) 0)(hq1:states.getD (N.ps.length+i) 0<(N.us.getD i default).ac.length)(hL:2^60<=L):aA env L n 151 [.agg [.d (.ivs N.ps.length (sysD N.ps)),.d (.ivs N.us.length (fS N.us)),.d (.ivs N.start.length (ints N.start)),nI N.ls,nI N.kind,nI N.goal],.d (.ivs states.length (ints states)),nI i] []=some (.d (.bool (okN N states i)),[]):=by
 have g:=aUT hi
 have e1:IntKind.i64.wrap ((N.ps.length:Int)+i)=((N.ps.length+i:Nat):Int):=by
  rw[show(N.ps.length:Int)+i=((N.ps.length+i:Nat):Int) by omega];exact zF (by omega) (by omega)
 have hc1:((N.ps.length+i:Nat):Int)<states.length:=by omega
 have hc2:(0:Int)<=((N.ps.length+i:Nat):Int):=by omega
 have hi0:(0:Int)<=i:=by omega
 have hi1:(i:Int)<N.us.length:=by omega
 have hq3:(states.getD (N.ps.length+i) 0).toNat<(N.us.getD i default).ac.length:=by omega
 unfold okN;generalize N.us.getD i default=a at *;generalize hz:N.ps.length+i=z at *;obtain _|n:=n;omega;simp -implicitDefEqProofs (maxSteps:=2000000) (disch:=try exact Dz) only[↓DN,↓kAsg,↓kRet,UP,simprocAttr,NE,LA,Cg,Cj,hi0,hi1,g,e1,hc1,hc2,hq0,hq1,hq3,aNO,aIx,Tryz.f151]
theorem aEv{hq:H}{k:KA R}(hn:1<=n)(N:Net)(states:List Int)(i:Nat)(hi:i<N.us.length)(h1:N.ps.length<=1000)(h2:N.us.length<=1000)(hs:N.ps.length+i<states.length)(hs2:states.length<=4000)(ha:(N.us.getD i default).ac.length<=4294967290)(hq0:0<=states.getD (N.ps.length+i) 0)(hq1:states.getD (N.ps.length+i) 0<(N.us.getD i default).ac.length)(hL:2^60<=L):a6 env (aA env L n) hq 151 [.agg [.d (.ivs N.ps.length (sysD N.ps)),.d (.ivs N.us.length (fS N.us)),.d (.ivs N.start.length (ints N.start)),nI N.ls,nI N.kind,nI N.goal],.d (.ivs states.length (ints states)),nI i] k=k (.d (.bool (okN N states i))) hq:=
 c8 rfl (aNZ hn N states i hi h1 h2 hs hs2 ha hq0 hq1 hL) rfl (.inl rfl)
theorem AS(hn:5<=n)(N:Net)(i:Nat)(q l:Int)(hi:N.ps.length<=i)(hi2:i-N.ps.length<N.us.length)(h1:N.ps.length<=1000)(h2:N.us.length<=1000)(u:Aut)(hu:N.us.getD (i-N.ps.length) default=u)(hs:bF u.nx)(hw:vP (aB u.al).length u.nx)(hq0:0<=q)(hq1:q<u.nx.length)(h0:0<=l)(h6:l<6)(hL:2^60<=L):aA env L n 157 [.agg [.d (.ivs N.ps.length (sysD N.ps)),.d (.ivs N.us.length (fS N.us)),.d (.ivs N.start.length (ints N.start)),nI N.ls,nI N.kind,nI N.goal],nI i,nI q,nI l] []=some (.d (.ivs 1 (ints [goI u.al u.nx q l])),[]):=by
 have g:=aUb hi2;rw[hu]at g
 have e1:IntKind.i64.wrap ((i:Int)-N.ps.length)=((i-N.ps.length:Nat):Int):=by
  rw[show(i:Int)-N.ps.length=((i-N.ps.length:Nat):Int) by omega];exact zF (by omega) (by omega)
 have hc:(N.ps.length:Int)<=i:=by omega
 have hc1:((i-N.ps.length:Nat):Int)<N.us.length:=by omega
 have hc2:(0:Int)<=((i-N.ps.length:Nat):Int):=by omega
 have kc_g:=@aNm L u.al q l u.nx u.ac.length (aJ u.ac) hs hw hq0 hq1 h0 h6 hL;clear hu;generalize i-N.ps.length=z at *;obtain _|n:=n;omega;simp -implicitDefEqProofs (maxSteps:=2000000) (disch:=try exact Dz) only[↓DN,↓kAsg,↓kRet,UP,simprocAttr,NE,Ay,Cg,hc,hc1,hc2,g,e1,↓kc_g,aDW,QB,Tryz.f157];rfl
end Ev
end Go.Proofs.YthlkcebdfbjdoaaGreat
