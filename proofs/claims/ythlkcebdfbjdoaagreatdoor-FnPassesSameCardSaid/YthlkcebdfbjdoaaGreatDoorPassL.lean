/-
  Test suites: what the laws ask of them; calls whose arguments are data and that lay a suite.
-/
import Derived.Test.YthlkcebdfbjdoaaGreatDoorSuiteI
import Derived.Test.YthlkcebdfbjdoaaGreatDoorTrimL
import Derived.Test.YthlkcebdfbjdoaaGreatDoorAutG
import Derived.Test.YthlkcebdfbjdoaaGreatDoorClassS
import Derived.Test.YthlkcebdfbjdoaaGreatDoorSuiteW
set_option linter.unusedSimpArgs false
set_option linter.unusedVariables false
set_option linter.unusedSectionVars false
set_option maxRecDepth 8000
set_option maxHeartbeats 4000000
namespace Go.Proofs.YthlkcebdfbjdoaaGreatDoor
namespace Ev
theorem aFv{a:Aut}{x:Int}{l:List Str}(h:dE a x=some l)(w:Str):w∈l↔∃c∈cL a,∃m∈midG (aB a.al) (x.toNat+1),∃e∈sepW a,w=c++m++e:=by
 unfold dE at h
 split at h
 ·exact aQT h w
 ·cases h
theorem EP{a:Aut}{x:Int}{l:List Str}(h:dE a x=some l):AOK a/\0<=x/\x<=2/\pK l/\l.length<=3000:=by
 unfold dE at h
 split at h
 ·rename_i hc
  exact⟨hc.1,hc.2.1,hc.2.2,aSJ h⟩
 ·cases h
theorem aB6{a:Aut}{x:Int}{l:List Str}(h:dE a x=some l){w:Str}(hw:w∈l):(w.length:Int)<=2*a.nx.length+x/\dX a.al w=true/\dQ w=true:=by
 obtain⟨hv,h0,h2,_,_⟩:=EP h;obtain⟨_,_,a1,a2,_⟩:=aR hv;obtain⟨c,hc,m,hm,e,he,rfl⟩:=(aFv h w).1 hw;have:=aEz hv hc hm he;have h3:=this.1;exact⟨by omega,this.ok (gA hv).2.2.2 om⟩
theorem PO{R:Type}{E:Env}{call:a6}{h:H}{f:FuncId}{args:List A}{l:List Str}{b:Bool}{k:KA R}(hs:args.all sA=true)(hm:(E.hint f).mode=3)(hc:call f args []=some (.tup [.sl 0 0 0 l.length,.d (.bool b)],[.arr (aM l) 1 0])):
  aX E call h f args k=k (.tup [.sl h.length 0 0 l.length,.d (.bool b)]) (h++[.arr (aM l) 1 0]):=by
 rw[SR hs hm hc (by simp only[lV,j7,xF,Bw,Cd,aE7,Bo])];simp[mapA,aG,back,mapO]
theorem G3{R:Type}{E:Env}{call:a6}{h:H}{f:FuncId}{args:List A}{b:Bool}{k:KA R}(hs:args.all sA=true)(hm:(E.hint f).mode=3)(hc:call f args []=some (.tup [.d (.ivs 0 []),.d (.bool b)],[])):
  aX E call h f args k=k (.tup [.d (.ivs 0 []),.d (.bool b)]) h:=by
 rw[SR hs hm hc rfl];simp[mapA,aG]
theorem aOC{al q:Int}{rs:List (List Int)}{w:List UInt8}{i:Nat}(h:i<w.length):stGo al rs (w.drop i) q=stGo al rs (w.drop (i+1)) (goI al rs q (ltr (w.getD i 0))):=by
 rw[b8 h (d:=0)];rfl
theorem aBt{R:Type}{L n:Nat}(hn:1<=n){al:Int}{rs:List (List Int)}{ac:List Bool}{w:List UInt8}(hok:cD al rs ac=true)(hw:dX al w=true){k:KE R}:∀(i q:Int) (m:Nat) (h0:0<=i) (hi:i<=w.length) (hm:(w.length:Int)-i<m) (hq0:0<=q) (hq1:q<rs.length),
  aT env (aA env L n) L 0 [] Bz37 (z8 0) (U1 (Z1 (U2 (Z2 (Z1 (U8 (U4 (U2 (Z2 (U8 (U4 ([])))))))))))) m (Y1 (.d (.str w)::Y2 (nI 0::.d (.ivs rs.length (ints (iF al rs)))::nI q::Y8 (Y4 (Y2 (nI (w.length)::nI i::Y8 (Y4 ([])))))))) [] k
  =k (.exit 0) (Y1 (.d (.str w)::Y2 (nI 0::.d (.ivs rs.length (ints (iF al rs)))::nI (stGo al rs (w.drop i.toNat) q)::Y8 (Y4 (Y2 (nI (w.length)::nI (w.length)::Y8 (Y4 ([])))))))) []:=by
 intro i q m h0 hi hm hq0 hq1;have htl:=iB al rs;have hlen:=gA hok;obtain⟨hal,hwl,hin⟩:=pE hw;obtain⟨j,hj⟩:∃j:Nat,(j:Int)=(w.length:Int)-i:=⟨((w.length:Int)-i).toNat,by omega⟩
 induction j generalizing i q m with
 |zero=>
  obtain _|m:=m;omega;obtain rfl:i=w.length:=om
  simp-implicitDefEqProofs (maxSteps:=9^7) (disch:=try exact Dz) only[↓DN,↓kRet,UP,simprocAttr,Ah,CA,yH,Tryz.f99];simp only[Bt,stGo,List.foldl_nil]
 |succ j ih=>
  obtain _|m:=m;omega;have hc:i<w.length:=om;have hk:i.toNat<w.length:=om;have hb:w.getD i.toNat 0∈w:=by rw[Aa,Ad hk];exact At hk
  obtain⟨hb1,hb2⟩:=hin _ hb;have hl6:=aDy.1 hb1;have hg:=aEo hok hq0 hq1 hl6.1 hl6.2;have e1:(i+1).toNat=i.toNat+1:=om;have ih':=ih (i+1) (goI al rs q (ltr (w.getD i.toNat 0))) m om om om hg.1 hg.2 om;have hb3:eZ (ltr (w.getD i.toNat 0))=true:=hb1;have hl0:=hl6.1;have hl1:=hl6.2;have hcl:(ltr (w.getD i.toNat 0)).toNat<=(List.drop (q.toNat*6) (ints (iF al rs))).length:=by rw[Cg,dH,htl];omega
  rw[aOC hk,<-e1];clear ih hg hl6 hb hin hw hok
  simp-implicitDefEqProofs (maxSteps:=9^7) (disch:=try exact Dz) only[↓DN,↓kRet,UP,simprocAttr,↓GB,hc,hb3,QY,htl,↓ih',CA,yH,Tryz.f99]
theorem MQ{L n:Nat}(hn:5<=n)(al:Int)(rs:List (List Int))(ac:List Bool)(w:List UInt8)(hs:aW rs)(ha:ac.length<=4294967296)(hwl:w.length<=4294967295)(hL:2^60<=L):aA env L n 99 [.agg [nI al,.d (.ivs rs.length (aE rs)),.d (.ivs ac.length (aD ac))],.d (.str w)] []=some (nI (zJ al rs ac w),[]):=by
 have hl:=hs.1;unfold zJ
 cases hv:cD al rs ac with
 |false=>
  obtain _|n:=n;omega
  simp-implicitDefEqProofs (maxSteps:=9^7) (disch:=try exact Dz) only[↓DN,↓kAsg,↓kRet,UP,simprocAttr,↓bB,hv,AC,vE,Tryz.f99]
 |true=>
  cases hw:dX al w with
  |false=>
   obtain _|n:=n;omega
   simp-implicitDefEqProofs (maxSteps:=9^7) (disch:=try exact Dz) only[↓DN,↓kAsg,↓kRet,UP,simprocAttr,↓bB,↓NZ,hv,hw,AC,vE,Tryz.f99]
  |true=>
   have hwd:=pP hv;have hlen:=gA hv;have loop_a:=fun {R:Type} {n:Nat} (hn:1<=n) {k:KE R}=>aBt (R:=R) (L:=L) (n:=n) hn (k:=k) hv hw 0 0 L om om om om om;simp only[Da,Ay]at loop_a;obtain _|n:=n;omega
   simp-implicitDefEqProofs (maxSteps:=9^7) (disch:=try exact Dz) only[↓DN,↓kAsg,↓kRet,UP,simprocAttr,↓bB,↓NZ,↓AV,hv,hw,↓loop_a,AC,vE,Tryz.f99]
theorem aGE:type_of% fun {L} al rs ac w hs ha hwl hL=>ks fun hn=> @MQ L _ hn al rs ac w hs ha hwl hL:=fun {L} al rs ac w hs ha hwl hL=>ks fun hn=> @MQ L _ hn al rs ac w hs ha hwl hL
section
variable{R:Type}{L n:Nat}
theorem aTG:∀(x a:Fin 64),(∀m:Fin 6,cN (x.val:Int) (m.val:Int)=true->cN (a.val:Int) (m.val:Int)=true)->iAnd .i64 (x.val:Int) (a.val:Int)=(x.val:Int):=by decide+kernel
theorem aU3{x a:Int}(hx:cP x=true)(ha:cP a=true)(h:∀m:Int,eZ m=true->cN x m=true->cN a m=true):iAnd .i64 x a=x:=by
 unfold cP at hx ha;simp only[decide_eq_true_eq]at hx ha
 have:=aTG ⟨x.toNat,by omega⟩ ⟨a.toNat,by omega⟩ (fun m=>by
  simp only[Bp hx.1,Bp ha.1];exact h m.val (yN.2 (by have:=m.isLt;omega)))
 simpa only[Bp hx.1,Bp ha.1]using this
theorem aRE{al:Int}{w:List UInt8}(h:dX al w=true):dQ w=true:=by
 obtain⟨_,h2,h3⟩:=pE h;unfold dQ;simp only[As,decide_eq_true_eq,Bk];exact⟨h2,fun b hb=>(h3 b hb).1⟩
theorem aQl{al:Int}{w:List UInt8}(h:dX al w=true):cP (y7 w)=true/\iAnd .i64 (y7 w) al=y7 w:=by
 obtain⟨h1,h2,h3⟩:=pE h
 have hl:∀l∈w.map ltr,eZ l=true:=by
  intro l hl;obtain⟨b,hb,rfl⟩:=Bd.1 hl;exact(h3 b hb).1
 have hA:cP (y7 w)=true:=aNV hl;refine⟨hA,aU3 hA h1 fun m hm hb=> ?_⟩;unfold y7 at hb;rw[aQW hl hm,List.any_eq_true]at hb;obtain⟨l,hlm,hd⟩:=hb;simp only[decide_eq_true_eq]at hd;obtain⟨b,hb,rfl⟩:=Bd.1 hlm;rw[hd];exact(h3 b hb).2
def accW(a:Aut)(w:List UInt8):Bool:=a.ac.getD (stGo a.al a.nx w 0).toNat false
theorem aMt{a:Aut}(ha:AOK a):∀(w:List UInt8) (q:Int),(∀b∈w,okB b=true)->0<=q->q<a.nx.length->0<=stGo a.al a.nx w q/\stGo a.al a.nx w q<a.nx.length
 | [],q,_,h0,h1=>⟨h0,h1⟩
 |b::w,q,hw,h0,h1=>by
  have hl:=aDy.1 (hw b Bf);have hg:=aEo ha h0 h1 hl.1 hl.2;exact aMt ha w _ (fun x hx=>hw x (Bb _ hx)) hg.1 hg.2
theorem aOH{a:Aut}(ha:AOK a){w:List UInt8}(hw:dX a.al w=true):0<=stGo a.al a.nx w 0/\stGo a.al a.nx w 0<a.ac.length:=by
 obtain⟨_,_,a1,_,a3⟩:=aR ha;obtain⟨_,_,h3⟩:=pE hw;have:=aMt ha w 0 (fun b hb=>(h3 b hb).1) om om;omega
theorem K5(hn:6<=n)(a:Aut)(w:List UInt8)(ha:AOK a)(hw:dX a.al w=true)(hL:2^60<=L):aA env L n 51 [.agg [nI a.al,.d (.ivs a.nx.length (aE a.nx)),.d (.ivs a.ac.length (aD a.ac))],.d (.str w)] []=some (.d (.bool (accW a w)),[]):=by
 obtain⟨sa,wa,a1,a2,a3⟩:=aR ha;obtain⟨r0,r1⟩:=aOH ha hw;obtain⟨_,hwl,_⟩:=pE hw;have kc_s:=@aGE L a.al a.nx a.ac w sa om om hL
 have e:zJ a.al a.nx a.ac w=stGo a.al a.nx w 0:=by
  unfold zJ;rw[show cD a.al a.nx a.ac=true from ha,hw];rfl
 rw[e]at kc_s;unfold accW;clear wa ha hw e;generalize stGo a.al a.nx w 0=q at *;obtain _|n:=n;omega
 simp-implicitDefEqProofs (maxSteps:=9^7) (disch:=try exact Dz) only[↓DN,↓kAsg,↓kRet,UP,simprocAttr,LA,r0,r1,↓kc_s,aC8,N5,Tryz.f51]
theorem MC:type_of% fun {L} a w ha hw hL=>ks fun hn=> @K5 L _ hn a w ha hw hL:=fun {L} a w ha hw hL=>ks fun hn=> @K5 L _ hn a w ha hw hL
theorem aBg(hn:2<=n){s:List UInt8}(hs:s.length<=50000)(ha:s.all okB=true){k:KE R}:∀(i o:Int) (m:Nat) (h0:0<=i) (hi:i<=s.length) (hm:(s.length:Int)-i<m),
  aT env (aA env L n) L 0 [] (U1 (Z1 (U4 (Z16 ([]))))) (A1 0) (Z1 (U1 (Z4 (U16 ([]))))) m (.d (.str s)::Y1 (nI 0::.d (.bool false)::nI o::nI i::Y16 ([]))) [] k
  =k (.exit 0) (.d (.str s)::Y1 (nI 0::.d (.bool false)::nI ((s.drop i.toNat).foldl (fun o b=>iOr .i64 o (bitI (ltr b))) o)::nI (s.length)::Y16 ([]))) []:=by
 intro i o m h0 hi hm;obtain⟨j,hj⟩:∃j:Nat,(j:Int)=(s.length:Int)-i:=⟨((s.length:Int)-i).toNat,by omega⟩
 induction j generalizing i m o with
 |zero=>
  obtain _|m:=m;omega;obtain rfl:i=s.length:=om
  simp-implicitDefEqProofs (maxSteps:=9^7) (disch:=try exact Dz) only[↓DN,↓kRet,UP,simprocAttr,Ah,CG,x6,Tryz.f201];simp only[Bt,List.foldl_nil]
 |succ j ih=>
  obtain _|m:=m;omega;have hc:i<s.length:=om;have hk:i.toNat<s.length:=om;have e1:(i+1).toNat=i.toNat+1:=om;have hb:=aWC (d:=0) ha hk;have hsl:=yN.1 hb;have hsl0:=hsl.1;have hsl1:ltr (s.getD i.toNat 0)<=9223372036854775807:=om;rw[aTS hk (d:=0),<-e1];have ih':=ih (i+1) (iOr .i64 o (bitI (ltr (s.getD i.toNat 0)))) m om om om om;clear ih hsl
  simp-implicitDefEqProofs (maxSteps:=9^7) (disch:=try exact Dz) only[↓DN,↓kRet,UP,simprocAttr,↓FD,↓aO7,hc,↓ih',CG,x6,Tryz.f201]
theorem NB(hn:4<=n)(s:List UInt8)(hw:dQ s=true)(hL:2^60<=L):aA env L n 201 [.d (.str s)] []=some (.tup [nI (y7 s),.d (.bool true)],[]):=by
 have hw':=hw;unfold dQ at hw';simp only[As,decide_eq_true_eq]at hw';obtain⟨hw1,hw2⟩:=hw'
 have e:s.foldl (fun o b=>iOr .i64 o (bitI (ltr b))) 0=y7 s:=by
  unfold y7 aKt;rw[List.foldl_map]
 have loop_a:=fun {R n k} hn=> @aBg R L n hn s hw1 hw2 k 0 0 L om om om;simp only[Da,Ay,e]at loop_a;obtain _|n:=n;omega
 simp-implicitDefEqProofs (maxSteps:=9^7) (disch:=try exact Dz) only[↓DN,↓kAsg,↓kRet,UP,simprocAttr,↓uO,hw,↓loop_a,aGL,QJ,Tryz.f201]
theorem aF9:type_of% fun {L} s hw hL=>ks fun hn=> @NB L _ hn s hw hL:=fun {L} s hw hL=>ks fun hn=> @NB L _ hn s hw hL
theorem OF(hn:5<=n)(s:List UInt8)(al:Int)(hw:dX al s=true)(hL:2^60<=L):aA env L n 164 [.d (.str s),nI al] []=some (.d (.bool true),[]):=by
 have h1:=aRE hw;obtain⟨h2,h3⟩:=aQl hw;have h4:=(pE hw).1;obtain _|n:=n;omega
 simp-implicitDefEqProofs (maxSteps:=9^7) (disch:=try exact Dz) only[↓DN,↓kAsg,↓kRet,UP,simprocAttr,↓aF9,↓gR,h3,h4,aE5,R6,Tryz.f164]
theorem aGO:type_of% fun {L} s al hw hL=>ks fun hn=> @OF L _ hn s al hw hL:=fun {L} s al hw hL=>ks fun hn=> @OF L _ hn s al hw hL
theorem aKF(hn:4<=n)(hL:2^60<=L){a:Aut}{w:List UInt8}(ha:AOK a)(hw:dX a.al w=true){k:KE R}:∀(i q:Int) (m:Nat) (h0:0<=i) (hi:i<=w.length) (hm:(w.length:Int)-i<m) (hq0:0<=q) (hq1:q<a.nx.length),
  aT env (aA env L n) L 0 [] Bz53 (TT 0) (U1 (Z2 (Z1 (U2 (Z2 (U8 (U4 (U1 ([]))))))))) m (Y1 (nI q::.d (.str w)::.ptr 0 0 0::Y2 (nI 0::nI i::Y8 (Y4 (Y1 ([])))))) [.box [nI a.al,.d (.ivs a.nx.length (aE a.nx)),.d (.ivs a.ac.length (aD a.ac))]] k
  =k (.exit 0) (Y1 (nI (stGo a.al a.nx (w.drop i.toNat) q)::.d (.str w)::.ptr 0 0 0::Y2 (nI 0::nI (w.length)::Y8 (Y4 (Y1 ([])))))) [.box [nI a.al,.d (.ivs a.nx.length (aE a.nx)),.d (.ivs a.ac.length (aD a.ac))]]:=by
 intro i q m h0 hi hm hq0 hq1;obtain⟨sa,wa,a1,a2,a3⟩:=aR ha;obtain⟨hal,hwl,hin⟩:=pE hw;obtain⟨j,hj⟩:∃j:Nat,(j:Int)=(w.length:Int)-i:=⟨((w.length:Int)-i).toNat,by omega⟩
 induction j generalizing i q m with
 |zero=>
  obtain _|m:=m;omega;obtain rfl:i=w.length:=om
  simp-implicitDefEqProofs (maxSteps:=9^7) (disch:=try exact Dz) only[↓DN,↓kRet,UP,simprocAttr,Ah,Q2,PJ,Tryz.f165];simp only[Bt,stGo,List.foldl_nil]
 |succ j ih=>
  obtain _|m:=m;omega;have hc:i<w.length:=om;have hk:i.toNat<w.length:=om;have hb:w.getD i.toNat 0∈w:=by rw[Aa,Ad hk];exact At hk
  have hl6:=aDy.1 (hin _ hb).1;have hg:=aEo ha hq0 hq1 hl6.1 hl6.2;have e1:(i+1).toNat=i.toNat+1:=om;have ih':=ih (i+1) (goI a.al a.nx q (ltr (w.getD i.toNat 0))) m om om om hg.1 hg.2 om;have kc_g:=@aIF L a.al q (ltr (w.getD i.toNat 0)) a.nx a.ac.length (aD a.ac) sa (pP ha) hq0 hq1 hl6.1 hl6.2 hL;rw[aOC hk,<-e1];clear ih hg hl6 hb hin
  simp-implicitDefEqProofs (maxSteps:=9^7) (disch:=try exact Dz) only[↓DN,↓kRet,UP,simprocAttr,↓FD,hc,↓kc_g,Bj,↓ih',Q2,PJ,Tryz.f165]
theorem aGq(hn:5<=n)(a:Aut)(w:List UInt8)(ha:AOK a)(hw:dX a.al w=true)(hL:2^60<=L):aA env L n 165 [.agg [nI a.al,.d (.ivs a.nx.length (aE a.nx)),.d (.ivs a.ac.length (aD a.ac))],nI 0,.d (.str w)] []=some (nI (stGo a.al a.nx w 0),[]):=by
 obtain⟨_,_,a1,_,_⟩:=aR ha;obtain⟨_,hwl,_⟩:=pE hw;have loop_a:=fun {R n k} hn=> @aKF R L n hn hL a w ha hw k 0 0 L om om om om om;simp only[Da,Ay]at loop_a;obtain _|n:=n;omega
 simp-implicitDefEqProofs (maxSteps:=9^7) (disch:=try exact Dz) only[↓DN,↓kAsg,↓kRet,UP,simprocAttr,↓loop_a,aQq,aIH,Tryz.f165]
theorem aP0:type_of% fun {L} a w ha hw hL=>ks fun hn=> @aGq L _ hn a w ha hw hL:=fun {L} a w ha hw hL=>ks fun hn=> @aGq L _ hn a w ha hw hL
theorem KQ(hn:9<=n)(a:Aut)(w:List UInt8)(ha:AOK a)(hw:dX a.al w=true)(hL:2^60<=L):aA env L n 68 [.agg [nI a.al,.d (.ivs a.nx.length (aE a.nx)),.d (.ivs a.ac.length (aD a.ac))],.d (.str w)] []=some (.d (.bool (accW a w)),[]):=by
 obtain⟨sa,wa,a1,a2,a3⟩:=aR ha;obtain⟨r0,r1⟩:=aOH ha hw;have hrl:=sa.1;have hac:a.ac.length<=4294967296:=om
 have ev:∀ {n:Nat},8<=n->aA env L n 115 [.agg [nI a.al,.d (.ivs a.nx.length (aE a.nx)),.d (.ivs a.ac.length (aD a.ac))],.d (.str w)] []=some (nI (stGo a.al a.nx w 0),[]):=by
  intro n hn;have hve:cD a.al a.nx a.ac=true:=ha;have kc_r:=@aP0 L a w ha hw hL;have kc_w:=@aGO L w a.al hw hL;clear r0 r1;obtain _|n:=n;omega
  simp-implicitDefEqProofs (maxSteps:=9^7) (disch:=try exact Dz) only[↓DN,↓kAsg,↓kRet,UP,simprocAttr,↓bA,hve,↓kc_r,↓kc_w,aFl,QN,Tryz.f115]
 have kc_s:=fun {R:Type} {n:Nat} {hq:H} {k:KA R} (hn:8<=n)=>bS (E:=env) (call:=aA env L n) (h:=hq) (k:=k) (f:=115) rfl (ev hn) rfl (.inl rfl);unfold accW;clear wa ha hw ev;generalize stGo a.al a.nx w 0=q at *;obtain _|n:=n;omega
 simp-implicitDefEqProofs (maxSteps:=9^7) (disch:=try exact Dz) only[↓DN,↓kAsg,↓kRet,UP,simprocAttr,LA,r0,r1,↓kc_s,aCV,N9,Tryz.f68]
theorem J5:type_of% fun {L} a w ha hw hL=>ks fun hn=> @KQ L _ hn a w ha hw hL:=fun {L} a w ha hw hL=>ks fun hn=> @KQ L _ hn a w ha hw hL
end
section
variable{R:Type}{L n:Nat}
def jZ(a b:Aut):Bool:=cD a.al a.nx a.ac&&cD b.al b.nx b.ac&&decide (a.al=b.al)
theorem uE{a b:Aut}:jZ a b=true↔AOK a/\AOK b/\a.al=b.al:=by
 unfold jZ AOK;simp only[As,decide_eq_true_eq,and_assoc]
def oN(a b:Aut)(l:List Str)(i:Nat):Bool:=!(accW a (l.getD i [])==accW b (l.getD i []))
def aGG(a b:Aut)(l:List Str):Str×Bool:=match seek (oN a b l) l.length 0 with
 |none=>([],false)
 |some q=>(l.getD q [],true)
def qB(a b:Aut)(x:Int):Str×Bool:=match dE a x with
 |none=>([],false)
 |some l=>if jZ a b=true then aGG a b l else([],false)
theorem JJ(hn:6<=n)(a b:Aut)(sa:aW a.nx)(sb:aW b.nx)(ha:a.ac.length<=4294967296)(hb:b.ac.length<=4294967296)(hL:2^60<=L):aA env L n 22 [.agg [nI a.al,.d (.ivs a.nx.length (aE a.nx)),.d (.ivs a.ac.length (aD a.ac))],.agg [nI b.al,.d (.ivs b.nx.length (aE b.nx)),.d (.ivs b.ac.length (aD b.ac))]] []=some (.d (.bool (jZ a b)),[]):=by
 have hra:=sa.1;have hrb:=sb.1;unfold jZ
 cases h1:cD a.al a.nx a.ac with
 |false=>
  obtain _|n:=n;omega
  simp-implicitDefEqProofs (maxSteps:=9^7) (disch:=try exact Dz) only[↓DN,↓kAsg,↓kRet,UP,simprocAttr,↓bB,h1,yE,sN,Tryz.f22]
 |true=>
  cases h2:cD b.al b.nx b.ac with
  |false=>
   obtain _|n:=n;omega
   simp-implicitDefEqProofs (maxSteps:=9^7) (disch:=try exact Dz) only[↓DN,↓kAsg,↓kRet,UP,simprocAttr,↓bB,h1,h2,yE,sN,Tryz.f22]
  |true=>
   obtain _|n:=n;omega
   simp-implicitDefEqProofs (maxSteps:=9^7) (disch:=try exact Dz) only[↓DN,↓kAsg,↓kRet,UP,simprocAttr,↓bB,h1,h2,yE,sN,Tryz.f22]
theorem qJ:type_of% fun {L} a b sa sb ha hb hL=>ks fun hn=> @JJ L _ hn a b sa sb ha hb hL:=fun {L} a b sa sb ha hb hL=>ks fun hn=> @JJ L _ hn a b sa sb ha hb hL
theorem WY(hn:7<=n)(hL:2^60<=L){a b:Aut}{l:List Str}(hl:l.length<=3000)(ha:AOK a)(hb:AOK b)(hal:a.al=b.al)(hok:∀w∈l,dX a.al w=true){k:KE R}:∀(j i m:Nat) (hi:i+j=l.length) (hm:j<m),
  aT env (aA env L n) L 0 [] Bz34 (vZ 0) (U2 (U1 (Z2 (U1 (Z2 (U16 (U2 (Z2 (Z1 (U8 (U4 ([])))))))))))) m (Y2 (Y1 (.ptr 0 0 0::.ptr 1 0 0::Y1 (.d (.str ([]))::.d (.bool false)::Y16 (Y2 (.sl 2 0 0 l.length::nI (l.length)::nI i::Y8 (Y4 ([])))))))) [.box [nI a.al,.d (.ivs a.nx.length (aE a.nx)),.d (.ivs a.ac.length (aD a.ac))],.box [nI b.al,.d (.ivs b.nx.length (aE b.nx)),.d (.ivs b.ac.length (aD b.ac))],.arr (aM l) 1 0] k
  =match seek (oN a b l) j i with
   |none=>k (.exit 0) (Y2 (Y1 (.ptr 0 0 0::.ptr 1 0 0::Y1 (.d (.str ([]))::.d (.bool false)::Y16 (Y2 (.sl 2 0 0 l.length::nI (l.length)::nI (l.length)::Y8 (Y4 ([])))))))) [.box [nI a.al,.d (.ivs a.nx.length (aE a.nx)),.d (.ivs a.ac.length (aD a.ac))],.box [nI b.al,.d (.ivs b.nx.length (aE b.nx)),.d (.ivs b.ac.length (aD b.ac))],.arr (aM l) 1 0]
   |some q=>k .ret (Y2 (Y1 (.ptr 0 0 0::.ptr 1 0 0::Y1 (.d (.str ((l.getD q [])))::.d (.bool true)::Y16 (Y2 (.sl 2 0 0 l.length::nI (l.length)::nI q::Y8 (Y4 ([])))))))) [.box [nI a.al,.d (.ivs a.nx.length (aE a.nx)),.d (.ivs a.ac.length (aD a.ac))],.box [nI b.al,.d (.ivs b.nx.length (aE b.nx)),.d (.ivs b.ac.length (aD b.ac))],.arr (aM l) 1 0]:=by
 intro j
 induction j with
 |zero=>
  intro i m hi hm;obtain _|m:=m;omega;obtain rfl:i=l.length:=om
  simp-implicitDefEqProofs (maxSteps:=9^7) (disch:=try exact Dz) only[↓DN,↓kRet,UP,simprocAttr,Ah,oH,mR,Tryz.f21]<;>rfl
 |succ j ih=>
  intro i m hi hm;obtain _|m:=m;omega;have hc:(i:Int)<l.length:=om;have hi0:(0:Int)<=i:=om;have hw:=hok _ (d9 (show i<l.length by omega));have kc_a:=@MC L a (l.getD i []) ha hw hL;have kc_b:=@MC L b (l.getD i []) hb (by rw[<-hal];exact hw) hL;have hwr:oN a b l i= !(accW a (l.getD i [])==accW b (l.getD i [])):=rfl
  by_cases hz:(accW a (l.getD i [])==accW b (l.getD i []))=true
  ·rw[hz]at hwr;rw[jH hwr];have ih':=ih (i+1) m om om;rw[cs1 i]at ih';clear ih hok hw hwr ha hb;generalize accW a (l.getD i [])=x at *;generalize accW b (l.getD i [])=y at *;generalize hwi:l.getD i []=w at *
   simp-implicitDefEqProofs (maxSteps:=9^7) (disch:=try exact Dz) only[↓DN,↓kRet,UP,simprocAttr,SE,hc,hi0,hwi,hz,↓kc_a,↓kc_b,Bj,↓ih',oH,mR,Tryz.f21]
  ·rw[Bool.not_eq_true]at hz;rw[hz]at hwr;rw[fW hwr];clear ih hok hw hwr ha hb;generalize accW a (l.getD i [])=x at *;generalize accW b (l.getD i [])=y at *;generalize hwi:l.getD i []=w at *
   simp-implicitDefEqProofs (maxSteps:=9^7) (disch:=try exact Dz) only[↓DN,↓kAsg,↓kRet,UP,simprocAttr,SE,hc,hi0,hwi,hz,↓kc_a,↓kc_b,Bj,oH,mR,Tryz.f21]
theorem G9(hn:16<=n)(a b:Aut)(x:Int)(sa:aW a.nx)(sb:aW b.nx)(ha:a.ac.length<=4294967296)(hb:b.ac.length<=4294967296)(hL:2^60<=L):aA env L n 21 [.agg [nI a.al,.d (.ivs a.nx.length (aE a.nx)),.d (.ivs a.ac.length (aD a.ac))],.agg [nI b.al,.d (.ivs b.nx.length (aE b.nx)),.d (.ivs b.ac.length (aD b.ac))],nI x] []=some (.tup [.d (.str (qB a b x).1),.d (.bool (qB a b x).2)],[]):=by
 have hra:=sa.1;have hrb:=sb.1;have hI:=fun {n:Nat} (hn:15<=n)=>CS (L:=L) hn a x sa ha hL;unfold qB
 cases hG:dE a x with
 |none=>
  rw[hG]at hI;have kc_1:=fun {R:Type} {n:Nat} {hq:H} {k:KA R} (hn:15<=n)=>G3 (h:=hq) (k:=k) rfl eL (hI hn);clear hI;obtain _|n:=n;omega
  simp-implicitDefEqProofs (maxSteps:=9^7) (disch:=try exact Dz) only[↓DN,↓kAsg,↓kRet,UP,simprocAttr,↓kc_1,nR,lR,Tryz.f21]
 |some l=>
  rw[hG]at hI;have kc_1:=fun {R:Type} {n:Nat} {hq:H} {k:KA R} (hn:15<=n)=>PO (h:=hq) (k:=k) rfl eL (hI hn);have kc_c:=@qJ L a b sa sb ha hb hL;obtain⟨hv,y0,_,_,hl⟩:=EP hG;clear hI
  cases hcm:jZ a b with
  |false=>
   rw[hcm]at kc_c;simp only[Ak,if_false];obtain _|n:=n;omega
   simp-implicitDefEqProofs (maxSteps:=9^7) (disch:=try exact Dz) only[↓DN,↓kAsg,↓kRet,UP,simprocAttr,↓kc_1,↓kc_c,nR,lR,Tryz.f21]
  |true=>
   rw[hcm]at kc_c;obtain⟨va,vb,hal⟩:=uE.1 hcm;have loop_a:=fun {R n k} hn=> @WY R L n hn hL a b l hl va vb hal (fun w hw=>(aB6 hG hw).2.1) k l.length 0 L om om;simp only[Ao]at loop_a;simp only[if_true];unfold aGG;clear hv va vb hG
   cases hs:seek (oN a b l) l.length 0 with
   |none=>
    simp only[hs]at loop_a;obtain _|n:=n;omega
    simp-implicitDefEqProofs (maxSteps:=9^7) (disch:=try exact Dz) only[↓DN,↓kAsg,↓kRet,UP,simprocAttr,↓kc_1,↓kc_c,↓loop_a,nR,lR,Tryz.f21]
   |some q=>
    simp only[hs]at loop_a;obtain _|n:=n;omega
    simp-implicitDefEqProofs (maxSteps:=9^7) (disch:=try exact Dz) only[↓DN,↓kAsg,↓kRet,UP,simprocAttr,↓kc_1,↓kc_c,↓loop_a,nR,lR,Tryz.f21]
theorem aBv:type_of% fun {L} a b x sa sb ha hb hL=>ks fun hn=> @G9 L _ hn a b x sa sb ha hb hL:=fun {L} a b x sa sb ha hb hL=>ks fun hn=> @G9 L _ hn a b x sa sb ha hb hL
theorem aEQ(hn:6<=n)(a b:Aut)(sa:aW a.nx)(sb:aW b.nx)(ha:a.ac.length<=4294967296)(hb:b.ac.length<=4294967296)(hL:2^60<=L):aA env L n 32 [.agg [nI a.al,.d (.ivs a.nx.length (aE a.nx)),.d (.ivs a.ac.length (aD a.ac))],.agg [nI b.al,.d (.ivs b.nx.length (aE b.nx)),.d (.ivs b.ac.length (aD b.ac))]] []=some (.d (.bool (jZ a b)),[]):=by
 have hra:=sa.1;have hrb:=sb.1;unfold jZ
 cases h1:cD a.al a.nx a.ac with
 |false=>
  obtain _|n:=n;omega
  simp-implicitDefEqProofs (maxSteps:=9^7) (disch:=try exact Dz) only[↓DN,↓kAsg,↓kRet,UP,simprocAttr,↓bA,h1,UI,NK,Tryz.f32]
 |true=>
  cases h2:cD b.al b.nx b.ac with
  |false=>
   obtain _|n:=n;omega
   simp-implicitDefEqProofs (maxSteps:=9^7) (disch:=try exact Dz) only[↓DN,↓kAsg,↓kRet,UP,simprocAttr,↓bA,h1,h2,UI,NK,Tryz.f32]
  |true=>
   obtain _|n:=n;omega
   simp-implicitDefEqProofs (maxSteps:=9^7) (disch:=try exact Dz) only[↓DN,↓kAsg,↓kRet,UP,simprocAttr,↓bA,h1,h2,UI,NK,Tryz.f32]
theorem aGN:type_of% fun {L} a b sa sb ha hb hL=>ks fun hn=> @aEQ L _ hn a b sa sb ha hb hL:=fun {L} a b sa sb ha hb hL=>ks fun hn=> @aEQ L _ hn a b sa sb ha hb hL
theorem XG(hn:9<=n)(hL:2^60<=L){a b:Aut}{l:List Str}(hl:l.length<=3000)(ha:AOK a)(hb:AOK b)(hal:a.al=b.al)(hok:∀w∈l,dX a.al w=true){k:KE R}:∀(j i m:Nat) (hi:i+j=l.length) (hm:j<m),
  aT env (aA env L n) L 0 [] Bz35 (v8 0) (U2 (U1 (Z2 (U1 (Z2 (Z1 (U1 (Z1 (U32 (U4 (U1 ([])))))))))))) m (Y2 (Y1 (.ptr 0 0 0::.ptr 1 0 0::Y1 (.d (.str ([]))::.d (.bool false)::.d (.ivs l.length (aM l))::Y1 (nI i::Y32 (Y4 (Y1 ([])))))))) [.box [nI a.al,.d (.ivs a.nx.length (aE a.nx)),.d (.ivs a.ac.length (aD a.ac))],.box [nI b.al,.d (.ivs b.nx.length (aE b.nx)),.d (.ivs b.ac.length (aD b.ac))]] k
  =match seek (oN a b l) j i with
   |none=>k (.exit 0) (Y2 (Y1 (.ptr 0 0 0::.ptr 1 0 0::Y1 (.d (.str ([]))::.d (.bool false)::.d (.ivs l.length (aM l))::Y1 (nI (l.length)::Y32 (Y4 (Y1 ([])))))))) [.box [nI a.al,.d (.ivs a.nx.length (aE a.nx)),.d (.ivs a.ac.length (aD a.ac))],.box [nI b.al,.d (.ivs b.nx.length (aE b.nx)),.d (.ivs b.ac.length (aD b.ac))]]
   |some q=>k .ret (Y2 (Y1 (.ptr 0 0 0::.ptr 1 0 0::Y1 (.d (.str ((l.getD q [])))::.d (.bool true)::.d (.ivs l.length (aM l))::Y1 (nI q::Y32 (Y4 (Y1 ([])))))))) [.box [nI a.al,.d (.ivs a.nx.length (aE a.nx)),.d (.ivs a.ac.length (aD a.ac))],.box [nI b.al,.d (.ivs b.nx.length (aE b.nx)),.d (.ivs b.ac.length (aD b.ac))]]:=by
 intro j
 induction j with
 |zero=>
  intro i m hi hm;obtain _|m:=m;omega;obtain rfl:i=l.length:=om
  simp-implicitDefEqProofs (maxSteps:=9^7) (disch:=try exact Dz) only[↓DN,↓kRet,UP,simprocAttr,Ah,o9,mX,Tryz.f31]<;>rfl
 |succ j ih=>
  intro i m hi hm;obtain _|m:=m;omega;have hc:(i:Int)<l.length:=om;have hi0:(0:Int)<=i:=om;have hw:=hok _ (d9 (show i<l.length by omega));have kc_a:=@J5 L a (l.getD i []) ha hw hL;have kc_b:=@J5 L b (l.getD i []) hb (by rw[<-hal];exact hw) hL;have hwr:oN a b l i= !(accW a (l.getD i [])==accW b (l.getD i [])):=rfl
  by_cases hz:(accW a (l.getD i [])==accW b (l.getD i []))=true
  ·rw[hz]at hwr;rw[jH hwr];have ih':=ih (i+1) m om om;rw[cs1 i]at ih';clear ih hok hw hwr ha hb;generalize accW a (l.getD i [])=x at *;generalize accW b (l.getD i [])=y at *;generalize hwi:l.getD i []=w at *
   simp-implicitDefEqProofs (maxSteps:=9^7) (disch:=try exact Dz) only[↓DN,↓kRet,UP,simprocAttr,SE,hc,hi0,hwi,hz,↓kc_a,↓kc_b,Bj,↓ih',o9,mX,Tryz.f31]
  ·rw[Bool.not_eq_true]at hz;rw[hz]at hwr;rw[fW hwr];clear ih hok hw hwr ha hb;generalize accW a (l.getD i [])=x at *;generalize accW b (l.getD i [])=y at *;generalize hwi:l.getD i []=w at *
   simp-implicitDefEqProofs (maxSteps:=9^7) (disch:=try exact Dz) only[↓DN,↓kAsg,↓kRet,UP,simprocAttr,SE,hc,hi0,hwi,hz,↓kc_a,↓kc_b,Bj,o9,mX,Tryz.f31]
theorem HP(hn:16<=n)(a b:Aut)(x:Int)(sa:aW a.nx)(sb:aW b.nx)(ha:a.ac.length<=4294967296)(hb:b.ac.length<=4294967296)(hL:2^60<=L):aA env L n 31 [.agg [nI a.al,.d (.ivs a.nx.length (aE a.nx)),.d (.ivs a.ac.length (aD a.ac))],.agg [nI b.al,.d (.ivs b.nx.length (aE b.nx)),.d (.ivs b.ac.length (aD b.ac))],nI x] []=some (.tup [.d (.str (qB a b x).1),.d (.bool (qB a b x).2)],[]):=by
 have hra:=sa.1;have hrb:=sb.1;have kc_1:=@QO L a x sa ha hL;unfold qB
 cases hG:dE a x with
 |none=>
  rw[hG]at kc_1;simp only[Option.getD_none,Ck,Ac,kW]at kc_1;obtain _|n:=n;omega
  simp-implicitDefEqProofs (maxSteps:=9^7) (disch:=try exact Dz) only[↓DN,↓kAsg,↓kRet,UP,simprocAttr,↓kc_1,nP,lS,Tryz.f31]
 |some l=>
  rw[hG]at kc_1;simp only[Be,Cu]at kc_1;have kc_c:=@aGN L a b sa sb ha hb hL;obtain⟨hv,y0,_,_,hl⟩:=EP hG
  cases hcm:jZ a b with
  |false=>
   rw[hcm]at kc_c;simp only[Ak,if_false];obtain _|n:=n;omega
   simp-implicitDefEqProofs (maxSteps:=9^7) (disch:=try exact Dz) only[↓DN,↓kAsg,↓kRet,UP,simprocAttr,↓kc_1,↓kc_c,nP,lS,Tryz.f31]
  |true=>
   rw[hcm]at kc_c;obtain⟨va,vb,hal⟩:=uE.1 hcm;have loop_a:=fun {R n k} hn=> @XG R L n hn hL a b l hl va vb hal (fun w hw=>(aB6 hG hw).2.1) k l.length 0 L om om;simp only[Ao]at loop_a;simp only[if_true];unfold aGG;clear hv va vb hG
   cases hs:seek (oN a b l) l.length 0 with
   |none=>
    simp only[hs]at loop_a;obtain _|n:=n;omega
    simp-implicitDefEqProofs (maxSteps:=9^7) (disch:=try exact Dz) only[↓DN,↓kAsg,↓kRet,UP,simprocAttr,↓kc_1,↓kc_c,↓loop_a,nP,lS,Tryz.f31]
   |some q=>
    simp only[hs]at loop_a;obtain _|n:=n;omega
    simp-implicitDefEqProofs (maxSteps:=9^7) (disch:=try exact Dz) only[↓DN,↓kAsg,↓kRet,UP,simprocAttr,↓kc_1,↓kc_c,↓loop_a,nP,lS,Tryz.f31]
theorem aBl:type_of% fun {L} a b x sa sb ha hb hL=>ks fun hn=> @HP L _ hn a b x sa sb ha hb hL:=fun {L} a b x sa sb ha hb hL=>ks fun hn=> @HP L _ hn a b x sa sb ha hb hL
def zO(a b:Aut)(x:Int):Bool:=(dE a x).isSome&&jZ a b&& !(qB a b x).2
theorem LC(hn:17<=n)(a b:Aut)(x:Int)(sa:aW a.nx)(sb:aW b.nx)(ha:a.ac.length<=4294967296)(hb:b.ac.length<=4294967296)(hL:2^60<=L):aA env L n 9 [.agg [nI a.al,.d (.ivs a.nx.length (aE a.nx)),.d (.ivs a.ac.length (aD a.ac))],.agg [nI b.al,.d (.ivs b.nx.length (aE b.nx)),.d (.ivs b.ac.length (aD b.ac))],nI x] []=some (.d (.bool (zO a b x)),[]):=by
 have hra:=sa.1;have hrb:=sb.1;have hI:=fun {n:Nat} (hn:15<=n)=>CS (L:=L) hn a x sa ha hL;have kc_f:=@aBv L a b x sa sb ha hb hL;have kc_c:=@qJ L a b sa sb ha hb hL;unfold zO;generalize qB a b x=f at *;obtain⟨w,ok⟩:=f;simp only at kc_f|-
 cases hG:dE a x with
 |none=>
  rw[hG]at hI;have kc_1:=fun {R:Type} {n:Nat} {hq:H} {k:KA R} (hn:15<=n)=>G3 (h:=hq) (k:=k) rfl eL (hI hn);clear hI;simp only[Ck,Cm];obtain _|n:=n;omega
  simp-implicitDefEqProofs (maxSteps:=9^7) (disch:=try exact Dz) only[↓DN,↓kAsg,↓kRet,UP,simprocAttr,↓kc_1,↓kc_f,xW,rV,Tryz.f9]
 |some l=>
  rw[hG]at hI;have kc_1:=fun {R:Type} {n:Nat} {hq:H} {k:KA R} (hn:15<=n)=>PO (h:=hq) (k:=k) rfl eL (hI hn);clear hI;simp only[Cu,Bool.true_and]
  cases hcm:jZ a b with
  |false=>
   rw[hcm]at kc_c;simp only[Cm];obtain _|n:=n;omega
   simp-implicitDefEqProofs (maxSteps:=9^7) (disch:=try exact Dz) only[↓DN,↓kAsg,↓kRet,UP,simprocAttr,↓kc_1,↓kc_f,↓kc_c,xW,rV,Tryz.f9]
  |true=>
   rw[hcm]at kc_c;simp only[Bool.true_and];obtain _|n:=n;omega
   simp-implicitDefEqProofs (maxSteps:=9^7) (disch:=try exact Dz) only[↓DN,↓kAsg,↓kRet,UP,simprocAttr,↓kc_1,↓kc_f,↓kc_c,xW,rV,Tryz.f9]
theorem yK:type_of% fun {L} a b x sa sb ha hb hL=>ks fun hn=> @LC L _ hn a b x sa sb ha hb hL:=fun {L} a b x sa sb ha hb hL=>ks fun hn=> @LC L _ hn a b x sa sb ha hb hL
theorem ML(hn:17<=n)(a b:Aut)(x:Int)(sa:aW a.nx)(sb:aW b.nx)(ha:a.ac.length<=4294967296)(hb:b.ac.length<=4294967296)(hL:2^60<=L):aA env L n 11 [.agg [nI a.al,.d (.ivs a.nx.length (aE a.nx)),.d (.ivs a.ac.length (aD a.ac))],.agg [nI b.al,.d (.ivs b.nx.length (aE b.nx)),.d (.ivs b.ac.length (aD b.ac))],nI x] []=some (.d (.bool (zO a b x)),[]):=by
 have hra:=sa.1;have hrb:=sb.1;have kc_1:=@QO L a x sa ha hL;have kc_f:=@aBl L a b x sa sb ha hb hL;have kc_c:=@aGN L a b sa sb ha hb hL;unfold zO;generalize qB a b x=f at *;obtain⟨w,ok⟩:=f;simp only at kc_f|-;generalize dE a x=S at *
 cases hS:S.isSome with
 |false=>
  rw[hS]at kc_1;simp only[Cm];obtain _|n:=n;omega
  simp-implicitDefEqProofs (maxSteps:=9^7) (disch:=try exact Dz) only[↓DN,↓kAsg,↓kRet,UP,simprocAttr,↓kc_1,↓kc_f,yD,sG,Tryz.f11]
 |true=>
  rw[hS]at kc_1;simp only[Bool.true_and]
  cases hcm:jZ a b with
  |false=>
   rw[hcm]at kc_c;simp only[Cm];obtain _|n:=n;omega
   simp-implicitDefEqProofs (maxSteps:=9^7) (disch:=try exact Dz) only[↓DN,↓kAsg,↓kRet,UP,simprocAttr,↓kc_1,↓kc_f,↓kc_c,yD,sG,Tryz.f11]
  |true=>
   rw[hcm]at kc_c;simp only[Bool.true_and];obtain _|n:=n;omega
   simp-implicitDefEqProofs (maxSteps:=9^7) (disch:=try exact Dz) only[↓DN,↓kAsg,↓kRet,UP,simprocAttr,↓kc_1,↓kc_f,↓kc_c,yD,sG,Tryz.f11]
theorem aDR:type_of% fun {L} a b x sa sb ha hb hL=>ks fun hn=> @ML L _ hn a b x sa sb ha hb hL:=fun {L} a b x sa sb ha hb hL=>ks fun hn=> @ML L _ hn a b x sa sb ha hb hL
end
def quoG(a:Aut)(cl:List Int):Nat->Nat->List (List Int)->List Bool->List (List Int)×List Bool
 |0,_,d,b=>(d,b)
 |j+1,q,d,b=>if cl.getD q 0<d.length then quoG a cl j (q+1) d b else quoG a cl j (q+1) (d++[(a.nx.getD q []).map (clA cl)]) (b++[acQ a q])
def quoA(a:Aut):Aut:=⟨a.al,(quoG a (a8 a) a.nx.length 0 [] []).1,(quoG a (a8 a) a.nx.length 0 [] []).2⟩
def minA(a:Aut):Aut:=a7 (quoA a)
structure Quo(a:Aut)(l:List (List Int))(cl:List Int)(q:Nat)(d:List (List Int))(b:List Bool):Prop where
 len:d.length=(aQ (l.take q)).length
 blen:b.length=d.length
 low:∀p,p<q->0<=cl.getD p 0/\cl.getD p 0<d.length
 row:∀p,p<q->d.getD (cl.getD p 0).toNat []=(a.nx.getD p []).map (clA cl)
 acc:∀p,p<q->b.getD (cl.getD p 0).toNat false=acQ a p
 mem:∀r∈d,∃p,p<q/\r=(a.nx.getD p []).map (clA cl)
theorem aJj{α:Type}[DecidableEq α]{l:List α}{q:Nat}(hq:q<l.length):(numL l).getD q 0=((idxG (addG (aQ (l.take q)) l[q]) l[q]:Nat):Int):=by
 have e:l=(l.take q++[l[q]])++l.drop (q+1):=smp
 have key:∀(u v:List α) (i:Nat),i<u.length->(numL (u++v)).getD i 0=(numL u).getD i 0:=by
  intro u v
  induction v generalizing u with
  |nil=>intro i hi;rw[Aj]
  |cons x v ih=>
   intro i hi;have:u++x::v=(u++[x])++v:=smp;rw[this,ih (u++[x]) i (by simp;omega),tO,Aa,Bc (by rw[m6];exact hi),Aa]
 have h1:=key (l.take q++[l[q]]) (l.drop (q+1)) q (by simp;omega);rw[<-e]at h1;rw[h1,tO,Aa,Bn (by rw[m6,Bi];omega)];have e2:q-(numL (l.take q)).length=0:=by rw[m6,Bi];omega
 rw[e2];rfl
theorem aSV{a:Aut}{l:List (List Int)}{cl:List Int}(hcl:cl=numL l)(hl:l.length=a.nx.length)(hst:∀i j:Nat,i<a.nx.length->j<a.nx.length->cl.getD i 0=cl.getD j 0->(a.nx.getD i []).map (clA cl)=(a.nx.getD j []).map (clA cl)/\acQ a i=acQ a j){q:Nat}{d:List (List Int)}{b:List Bool}(hq:q<a.nx.length)(h:Quo a l cl q d b):
  if cl.getD q 0<d.length then Quo a l cl (q+1) d b else Quo a l cl (q+1) (d++[(a.nx.getD q []).map (clA cl)]) (b++[acQ a q]):=by
 have hv:=aJj (l:=l) (q:=q) om;rw[<-hcl]at hv;have htk:l.take (q+1)=l.take q++[l[q]'om]:=by rw[Cw,Ad om];rfl
 have hsame:∀p (hp:p<q),(cl.getD p 0=cl.getD q 0↔l[p]'om=l[q]'om):=by
  intro p hp;rw[hcl];exact aHI om om
 by_cases hin:l[q]'om∈l.take q
 ·have hin2:=bU.2 hin;rw[RY hin2]at hv;have hlt:=aOv hin2;have hc:cl.getD q 0<d.length:=by rw[hv,h.len];omega
  rw[if_pos hc];obtain⟨p,hp,e⟩:=Bz hin;rw[Bi]at hp;rw[List.getElem_take]at e;have hpq:p<q:=om;have ec:=(hsame p hpq).2 e;refine⟨by rw[htk,gP,RY hin2];exact h.len,h.blen,?_,?_,?_,?_⟩
  ·intro r hr
   by_cases hr2:r=q
   ·subst hr2;exact⟨by rw[hv];omega,hc⟩
   ·exact h.low r om
  ·intro r hr
   by_cases hr2:r=q
   ·subst hr2;rw[<-ec,h.row p hpq];exact(hst p r om hq ec).1
   ·exact h.row r om
  ·intro r hr
   by_cases hr2:r=q
   ·subst hr2;rw[<-ec,h.acc p hpq];exact(hst p r om hq ec).2
   ·exact h.acc r om
  ·intro r hr;obtain⟨p,hp,e⟩:=h.mem r hr;exact⟨p,by omega,e⟩
 ·have hin2:l[q]'om∉aQ (l.take q):=fun hh=>hin (bU.1 hh);have hnew:=aEh hin2;rw[C8 hin2,hnew]at hv;have hv2:cl.getD q 0=d.length:=by rw[hv,h.len]
  have hc:¬cl.getD q 0<d.length:=om;rw[if_neg hc];refine⟨by rw[htk,gP,C8 hin2,Af,Af,h.len];rfl,by rw[Af,Af,h.blen];rfl,?_,?_,?_,?_⟩
  ·intro r hr;rw[Af]
   by_cases hr2:r=q
   ·subst hr2;simp only[Ae,Ac];omega
   ·have:=h.low r om;omega
  ·intro r hr
   by_cases hr2:r=q
   ·subst hr2;rw[hv2,Ca,Aa];simp
   ·have:=h.low r om;rw[Aa,Bc om,<-Aa];exact h.row r om
  ·intro r hr
   by_cases hr2:r=q
   ·subst hr2;rw[hv2,Ca,<-h.blen,Aa];simp
   ·have:=h.low r om;have hb:=h.blen;rw[Aa,Bc om,<-Aa];exact h.acc r om
  ·intro r hr
   rcases Ap.1 hr with hr|hr
   ·obtain⟨p,hp,e⟩:=h.mem r hr;exact⟨p,by omega,e⟩
   ·simp only[Bh]at hr;exact⟨q,by omega,hr⟩
theorem aHO{a:Aut}{l:List (List Int)}{cl:List Int}(hcl:cl=numL l)(hl:l.length=a.nx.length)(hst:∀i j:Nat,i<a.nx.length->j<a.nx.length->cl.getD i 0=cl.getD j 0->(a.nx.getD i []).map (clA cl)=(a.nx.getD j []).map (clA cl)/\acQ a i=acQ a j):∀(j q:Nat) (d:List (List Int)) (b:List Bool),q+j=a.nx.length->Quo a l cl q d b->Quo a l cl a.nx.length (quoG a cl j q d b).1 (quoG a cl j q d b).2
 |0,q,d,b,hj,h=>by
  obtain rfl:q=a.nx.length:=om;exact h
 |j+1,q,d,b,hj,h=>by
  have hs:=aSV hcl hl hst om h;unfold quoG
  by_cases hc:cl.getD q 0<d.length
  ·rw[if_pos hc]at hs|-;exact aHO hcl hl hst j (q+1) _ _ om hs
  ·rw[if_neg hc]at hs|-;exact aHO hcl hl hst j (q+1) _ _ om hs
structure QuoOK(a:Aut):Prop where
 ok:AOK (quoA a)
 zero:(a8 a).getD 0 0=0
 low:∀q:Nat,q<a.nx.length->0<=(a8 a).getD q 0/\(a8 a).getD q 0<(quoA a).nx.length
 go:∀q:Nat,q<a.nx.length->∀l∈aB a.al,goS (quoA a) ((a8 a).getD q 0) l=clA (a8 a) (goS a q l)
 acc:∀q:Nat,q<a.nx.length->acQ (quoA a) ((a8 a).getD q 0)=acQ a q
theorem QI{a:Aut}(h:AOK a):QuoOK a:=by
 obtain⟨l,e,hl,hrng,hp⟩:=SN h;obtain⟨a1,a2,a3,ha⟩:=gA h
 have hst:∀i j:Nat,i<a.nx.length->j<a.nx.length->(a8 a).getD i 0=(a8 a).getD j 0->(a.nx.getD i []).map (clA (a8 a))=(a.nx.getD j []).map (clA (a8 a))/\acQ a i=acQ a j:=by
  intro i j hi hj he;have hq:=(hp i j hi hj).1 he;refine⟨?_,hq [] smp⟩;rw[tH h hi,tH h hj];apply Cz;intro m hm;obtain⟨p,e1,hp1⟩:=vD h hi hm;obtain⟨r,e2,hr1⟩:=vD h hj hm;have:=aRe hq hm;rw[e1,e2]at this|-;exact(hp p r hp1 hr1).2 this
 have hQ:=aHO e hl hst a.nx.length 0 [] [] om ⟨by simp[aQ],rfl,fun p hp=>by omega,fun p hp=>by omega,fun p hp=>by omega,fun r hr=>by cases hr⟩;have hfl:=kM (l.take a.nx.length);rw[Bi]at hfl;have hlen:=hQ.len;have hlow0:=hQ.low 0 om
 have hok:AOK (quoA a):=by
  refine aD1 ha (by show 1<=(quoG a (a8 a) a.nx.length 0 [] []).1.length;omega) (by show(quoG a (a8 a) a.nx.length 0 [] []).1.length<=12;omega) hQ.blen ?_;intro r hr;obtain⟨p,hp1,rfl⟩:=hQ.mem r hr;rw[tH h hp1];refine⟨Am _,?_⟩;intro x hx;obtain⟨m,hm,rfl⟩:=Bd.1 hx;obtain⟨r,e1,hr1⟩:=vD h hp1 hm;rw[e1];exact hQ.low r hr1
 refine⟨hok,?_,hQ.low,?_,hQ.acc⟩
 ·rw[e];have:=aJj (l:=l) (q:=0) om;rw[this];simp[aQ,addG,idxG]
 ·intro q hq m hm;obtain⟨⟨m0,m1⟩,hb⟩:=gO.1 hm;obtain⟨p1,p2⟩:=s9 m0 m1 hb;unfold goS;rw[IY (show cN (quoA a).al m=true from hb),IY hb];have hr:=hQ.row q hq;show((quoG a (a8 a) a.nx.length 0 [] []).1.getD ((a8 a).getD q 0).toNat []).getD (gF a.al m) 0=_;rw[hr,Ca];have hw:=(gC h (i:=q) hq).1;rw[Aa,Bg,Ad om,Aa (l:=a.nx.getD q []),Ad om];rfl
theorem aOe{a:Aut}(h:AOK a):∀(w:List Int) (q:Nat),q<a.nx.length->(∀l∈w,l∈aB a.al)->∃p:Nat,p<a.nx.length/\w.foldl (goS a) q=p/\w.foldl (goS (quoA a)) ((a8 a).getD q 0)=(a8 a).getD p 0
 | [],q,hq,_=>⟨q,hq,rfl,rfl⟩
 |l::w,q,hq,hw=>by
  have hl:=hw l Bf;obtain⟨p,e,hp⟩:=vD h hq hl;obtain⟨r,hr,e1,e2⟩:=aOe h w p hp fun x hx=>hw x (Bb _ hx);refine⟨r,hr,by simp only[Cy];rw[e,e1],?_⟩;simp only[Cy];rw[(QI h).go q hq l hl,e];exact e2
def accI(a:Aut)(w:List Int):Bool:=acQ a (w.foldl (goS a) 0)
theorem aUQ{a:Aut}(h:AOK a){w:List Int}(hw:∀l∈w,l∈aB a.al):accI (quoA a) w=accI a w:=by
 obtain⟨_,_,a1,_,_⟩:=aR h;obtain⟨p,hp,e1,e2⟩:=aOe h w 0 om hw;rw[(QI h).zero]at e2;unfold accI;have e3:w.foldl (goS a) 0=(p:Int):=e1;rw[e2,e3];exact(QI h).acc p hp
theorem aTj{a:Aut}(h:AOK a){w:List Int}(hw:∀l∈w,l∈aB a.al):accI (a7 a) w=accI a w:=by
 obtain⟨W,hB⟩:=nW h;obtain⟨h1,h2⟩:=aDJ h hB w 0 hB.pos hw;rw[hB.o0]at h1 h2;have h3:w.foldl (goS (a7 a)) 0=idxU (ordA a) (w.foldl (goS a) 0):=h2;unfold accI;rw[h3];obtain⟨e,hp⟩:=vG h1;unfold acQ idxU a7;simp only;rw[Ca,Aa,Bg,Ad hp];show a.ac.getD ((ordA a)[List.idxOf (List.foldl (goS a) 0 w) (ordA a)]).toNat false=_;rw[List.getElem_idxOf]
theorem aSd{a:Aut}(h:AOK a):AOK (minA a):=DQ (QI h).ok
theorem aVf{a:Aut}(h:AOK a){w:List Int}(hw:∀l∈w,l∈aB a.al):accI (minA a) w=accI a w:=by
 unfold minA;rw[aTj (QI h).ok hw,aUQ h hw]
section
section
variable{a:Aut}{x y:Int}
end
end
section
variable{R:Type}{L n:Nat}
def Over(al:Int)(w:List Int):Prop:=∀l∈w,l∈aB al
theorem aMn{a:Aut}{w:List Int}(hw:Over a.al w):accW a (txt w)=accI a w:=by
 unfold accW accI acQ;rw[aK1 w 0 hw]
theorem NL{a b:Aut}(h:AOK a)(hb:AOK b)(hal:a.al=b.al):∀(w:List Int) (i j u:Int),0<=i->i<a.nx.length->0<=j->j<b.nx.length->
  (Path (nxT a b) (aB a.al) (i*b.nx.length+j) w u↔Over a.al w/\u=w.foldl (goS a) i*b.nx.length+w.foldl (goS b) j)
 | [],i,j,u,_,_,_,_=>by
  simp only[Path,List.foldl_nil]
  constructor
  ·rintro rfl;exact⟨by simp[Over],rfl⟩
  ·rintro⟨_,rfl⟩;rfl
 |l::w,i,j,u,i0,i1,j0,j1=>by
  obtain⟨e1,e2⟩:=AG (n:=(b.nx.length:Int)) om i0 j0 j1;simp only[Path,nxT,e1,e2,Bh,exists_eq_left]
  constructor
  ·rintro⟨hl,hp⟩;have gi:=o7 h i l i0 i1 hl;have gj:=o7 hb j l j0 j1 (hal▸hl);obtain⟨h1,h2⟩:=(NL h hb hal w (goS a i l) (goS b j l) u gi.1 gi.2 gj.1 gj.2).1 hp;exact⟨fun x hx=>(Au.1 hx).elim (fun e=>e▸hl) (h1 x),h2⟩
  ·rintro⟨hw,hu⟩;have hl:=hw l Bf;have gi:=o7 h i l i0 i1 hl;have gj:=o7 hb j l j0 j1 (hal▸hl);exact⟨hl,(NL h hb hal w (goS a i l) (goS b j l) u gi.1 gi.2 gj.1 gj.2).2 ⟨fun x hx=>hw x (Bb _ hx),hu⟩⟩
theorem aGW{a:Aut}(h:AOK a):∀(w:List Int) (q:Int),Over a.al w->0<=q->q<a.nx.length->0<=w.foldl (goS a) q/\w.foldl (goS a) q<a.nx.length
 | [],q,_,h0,h1=>⟨h0,h1⟩
 |l::w,q,hw,h0,h1=>by
  have hg:=o7 h q l h0 h1 (hw l Bf);exact aGW h w _ (fun x hx=>hw x (Bb _ hx)) hg.1 hg.2
def aKZ(a b:Aut)(w:List Int):Prop:=Over a.al w/\accI a w≠accI b w
theorem aNU{a b:Aut}(h:AOK a)(hb:AOK b)(hal:a.al=b.al)(w:List Int):
  Hits (nxT a b) (aB a.al) [0*(b.nx.length:Int)+0] (glT (fun x y=>x !=y) a b) w↔aKZ a b w:=by
 obtain⟨_,_,a1,_,_⟩:=aR h;obtain⟨_,_,b1,_,_⟩:=aR hb
 have key:Over a.al w->glT (fun x y=>x !=y) a b (w.foldl (goS a) 0*b.nx.length+w.foldl (goS b) 0)=(accI a w !=accI b w):=by
  intro hw;have ri:=aGW h w 0 hw om om;have rj:=aGW hb w 0 (hal▸hw) om om;obtain⟨e1,e2⟩:=AG (n:=(b.nx.length:Int)) om ri.1 rj.1 rj.2;unfold glT;rw[e1,e2];rfl
 unfold Hits sL aKZ;simp only[Bh,exists_eq_left]
 constructor
 ·rintro⟨u,hp,hg⟩;obtain⟨h1,rfl⟩:=(NL h hb hal w 0 0 u om om om om).1 hp;rw[key h1]at hg;exact⟨h1,by simpa using hg⟩
 ·rintro⟨h1,h2⟩;exact⟨_,(NL h hb hal w 0 0 _ om om om om).2 ⟨h1,rfl⟩,by rw[key h1];simpa using h2⟩
theorem aGy{a b:Aut}(h:AOK a)(hb:AOK b)(hal:a.al=b.al):D5 (aKZ a b) (twoG (fun x y=>x !=y) a b 0 0):=by
 obtain⟨_,_,a1,_,_⟩:=aR h;obtain⟨_,_,b1,_,_⟩:=aR hb;refine S1 (aNU h hb hal) ?_;refine aA9 (lC _) (fun v c h0 h1 hc m hm=> ?_) (fun n hn=> ?_) smp
 ·have:=cE c hc;rw[Cf]at h1|-;exact RW h hb h0 h1 ⟨this.1,by omega⟩ m hm
 ·simp only[Bh]at hn;subst hn;rw[Cf];exact DS om om
def TG(a b:Aut):Str×Bool:=if jZ a b=true then(txt (twoG (fun x y=>x !=y) a b 0 0).1,(twoG (fun x y=>x !=y) a b 0 0).2)else([],false)
def A4(a b:Aut):Bool:=jZ a b&& !(TG a b).2
theorem aC9{a b:Aut}:A4 a b=true↔AOK a/\AOK b/\a.al=b.al/\∀w,Over a.al w->accI a w=accI b w:=by
 unfold A4;rw[As,uE]
 constructor
 ·rintro⟨⟨ha,hb,hal⟩,hd⟩;refine⟨ha,hb,hal,fun w hw=> ?_⟩;unfold TG at hd;rw[if_pos (uE.2 ⟨ha,hb,hal⟩)]at hd
  rcases aGy ha hb hal with⟨h1,_⟩|⟨_,h2⟩
  ·rw[h1]at hd;cases hd
  ·exact Ec fun hc=>h2 w ⟨hw,hc⟩
 ·rintro⟨ha,hb,hal,hs⟩;refine⟨⟨ha,hb,hal⟩,?_⟩;unfold TG;rw[if_pos (uE.2 ⟨ha,hb,hal⟩)]
  rcases aGy ha hb hal with⟨_,h1,_⟩|⟨h1,_⟩
  ·exact absurd (hs _ h1.1) h1.2
  ·rw[h1];rfl
theorem aC6(hn:1<=n)(x y:Bool):aA env L n 72 [.d (.bool x),.d (.bool y)] []=some (.d (.bool (x !=y)),[]):=by
 obtain _|n:=n;omega
 simp-implicitDefEqProofs (maxSteps:=9^7) (disch:=try exact Dz) only[↓DN,↓kAsg,↓kRet,UP,simprocAttr,aDc,NF,Tryz.f72]
 all_goals (cases x<;>cases y<;>rfl)
theorem aDC{hq:H}{k:KA R}(hn:1<=n)(x y:Bool):aX env (aA env L n) hq 72 [.d (.bool x),.d (.bool y)] k=k (.d (.bool (x !=y))) hq:=
 bS rfl (aC6 hn x y) rfl (.inl rfl)
theorem VI(hn:9<=n)(a b:Aut)(sa:aW a.nx)(sb:aW b.nx)(ha:a.ac.length<=4294967296)(hb:b.ac.length<=4294967296)(hL:2^60<=L):aA env L n 34 [.agg [nI a.al,.d (.ivs a.nx.length (aE a.nx)),.d (.ivs a.ac.length (aD a.ac))],.agg [nI b.al,.d (.ivs b.nx.length (aE b.nx)),.d (.ivs b.ac.length (aD b.ac))]] []=some (.tup [.d (.str (TG a b).1),.d (.bool (TG a b).2)],[]):=by
 have kc_c:=@qJ L a b sa sb ha hb hL;have hra:=sa.1;have hrb:=sb.1;unfold TG
 cases hcm:jZ a b with
 |false=>
  rw[hcm]at kc_c;simp only[Ak,if_false];obtain _|n:=n;omega
  simp-implicitDefEqProofs (maxSteps:=9^7) (disch:=try exact Dz) only[↓DN,↓kAsg,↓kRet,UP,simprocAttr,↓kc_c,VX,KB,Tryz.f34]
 |true=>
  rw[hcm]at kc_c;obtain⟨va,vb,hal⟩:=uE.1 hcm;obtain⟨_,_,a1,a2,a3⟩:=aR va;obtain⟨_,_,b1,b2,b3⟩:=aR vb;have kl_b:=fun {R:Type} {n:Nat} {k:A->Option R} (hn:8<=n)=>lT (call:=aA env L n) (k:=k) (f:=71) (@MG L n hn hL a b (fun x y=>x !=y) 72 tC (fun x y {R n hq k} hn=>aDC hn x y) va vb 0 0 ⟨by omega,by omega⟩ ⟨by omega,by omega⟩) rfl;have kv_l:=fun {R:Type} {n:Nat} {hq:H} {args:List A} {k:KA R}=>dZ (E:=env) (call:=aA env L n) (h:=hq) (k:=k) (args:=args) mP;simp only[if_true];generalize twoG (fun x y=>x !=y) a b 0 0=r at *;obtain _|n:=n;omega
  simp-implicitDefEqProofs (maxSteps:=9^7) (disch:=try exact Dz) only[↓DN,↓kAsg,↓kRet,UP,simprocAttr,↓kc_c,↓kv_l,↓kl_b,VX,KB,Tryz.f34]
theorem aJ8:type_of% fun {L} a b sa sb ha hb hL=>ks fun hn=> @VI L _ hn a b sa sb ha hb hL:=fun {L} a b sa sb ha hb hL=>ks fun hn=> @VI L _ hn a b sa sb ha hb hL
theorem HO(hn:10<=n)(a b:Aut)(sa:aW a.nx)(sb:aW b.nx)(ha:a.ac.length<=4294967296)(hb:b.ac.length<=4294967296)(hL:2^60<=L):aA env L n 14 [.agg [nI a.al,.d (.ivs a.nx.length (aE a.nx)),.d (.ivs a.ac.length (aD a.ac))],.agg [nI b.al,.d (.ivs b.nx.length (aE b.nx)),.d (.ivs b.ac.length (aD b.ac))]] []=some (.d (.bool (A4 a b)),[]):=by
 have kc_c:=@qJ L a b sa sb ha hb hL;have kc_d:=@aJ8 L a b sa sb ha hb hL;have hra:=sa.1;have hrb:=sb.1;unfold A4;generalize TG a b=r at *
 cases hcm:jZ a b with
 |false=>
  rw[hcm]at kc_c;obtain _|n:=n;omega
  simp-implicitDefEqProofs (maxSteps:=9^7) (disch:=try exact Dz) only[↓DN,↓kAsg,↓kRet,UP,simprocAttr,↓kc_c,↓kc_d,HU,yJ,Tryz.f14]
 |true=>
  rw[hcm]at kc_c;obtain _|n:=n;omega
  simp-implicitDefEqProofs (maxSteps:=9^7) (disch:=try exact Dz) only[↓DN,↓kAsg,↓kRet,UP,simprocAttr,↓kc_c,↓kc_d,HU,yJ,Tryz.f14]
theorem aBz:type_of% fun {L} a b sa sb ha hb hL=>ks fun hn=> @HO L _ hn a b sa sb ha hb hL:=fun {L} a b sa sb ha hb hL=>ks fun hn=> @HO L _ hn a b sa sb ha hb hL
end
theorem aO9{a:Aut}{x:Int}{l:List Str}(h:dE a x=some l){w:Str}(hw:w∈l):∃u,w=txt u/\Over a.al u:=by
 obtain⟨c,hc,m,hm,e,he,rfl⟩:=(aFv h w).1 hw;obtain⟨u,e1,e2,_⟩:=(aEz (EP h).1 hc hm he).txt;exact⟨u,e1,e2⟩
structure FailOK(a b:Aut)(x:Int)(l:List Str)(w:Str):Prop where
 s:dE a x=some l
 c:jZ a b=true
 m:w∈l
 d:accW a w≠accW b w
theorem aS5{a b:Aut}{x:Int}(h:(qB a b x).2=true):∃l,FailOK a b x l (qB a b x).1:=by
 unfold qB at h|-
 cases hs:dE a x with
 |none=>rw[hs]at h;cases h
 |some l=>
  rw[hs]at h;simp only at h|-
  by_cases hc:jZ a b=true
  ·rw[if_pos hc]at h|-;unfold aGG at h|-
   cases hk:seek (oN a b l) l.length 0 with
   |none=>rw[hk]at h;cases h
   |some q=>
    obtain⟨_,q1,q2,_⟩:=zE hk;refine⟨l,hs,hc,d9 om,?_⟩;unfold oN at q2
    simpa using q2
  ·rw[if_neg hc]at h;cases h
theorem aTE{a b:Aut}{x:Int}{l:List Str}(hs:dE a x=some l)(hc:jZ a b=true)(h:(qB a b x).2=false){w:Str}(hw:w∈l):accW a w=accW b w:=by
 unfold qB at h;rw[hs]at h;simp only at h;rw[if_pos hc]at h;unfold aGG at h
 cases hk:seek (oN a b l) l.length 0 with
 |some q=>rw[hk]at h;cases h
 |none=>
  obtain⟨i,hi,rfl⟩:=Bz hw;have:=kX.1 hk i om om;unfold oN at this;rw[Aa,Ad hi]at this
  simpa using this
theorem aTY{a b:Aut}{x:Int}:zO a b x=true↔∃l,dE a x=some l/\jZ a b=true/\∀w∈l,accW a w=accW b w:=by
 unfold zO;simp only[As,Di]
 constructor
 ·rintro⟨⟨h1,h2⟩,h3⟩;obtain⟨l,hl⟩:=Ed.1 h1;exact⟨l,hl,h2,fun w hw=>aTE hl h2 h3 hw⟩
 ·rintro⟨l,hl,hc,hw⟩;refine⟨⟨by rw[hl];rfl,hc⟩,?_⟩
  cases hf:(qB a b x).2 with
  |false=>rfl
  |true=>
   obtain⟨l2,f⟩:=aS5 hf;have e:=f.s;rw[hl]at e;cases e;exact absurd (hw _ f.m) f.d

section
section
variable{α β γ:Type}[DecidableEq β][DecidableEq γ][Inhabited β]{l:List α}{f:α->β}{g:α->γ}(h:∀x∈l,∀y∈l,g x=g y->f x=f y)
include h
end
section
variable{b:Aut}{W:List Str}
variable{S:List Int}(hS:∀q∈S,∀l∈aB b.al,goS b q l∈S)
include hS
omit hS
end
end
end Ev
end Go.Proofs.YthlkcebdfbjdoaaGreatDoor
