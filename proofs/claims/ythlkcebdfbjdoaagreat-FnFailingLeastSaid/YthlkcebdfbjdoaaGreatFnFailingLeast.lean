/-
  Test suites: what the laws ask of them; calls whose arguments are data and that lay a suite.
-/
import Derived.Test.YthlkcebdfbjdoaaGreatSuiteI
import Derived.Test.YthlkcebdfbjdoaaGreatTrimL
import Derived.Test.YthlkcebdfbjdoaaGreatAutG
import Derived.Test.YthlkcebdfbjdoaaGreatAnyD
set_option linter.unusedSimpArgs false
set_option linter.unusedVariables false
set_option linter.unusedSectionVars false
set_option maxRecDepth 8000
set_option maxHeartbeats 4000000
namespace Go.Proofs.YthlkcebdfbjdoaaGreat
namespace Ev
theorem aL2{a:Aut}{x:Int}{l:List Str}(h:fU a x=some l)(w:Str):w∈l↔∃c∈cJ a,∃m∈midG (aB a.al) (x.toNat+1),∃e∈sepW a,w=c++m++e:=by
 unfold fU at h
 split at h
 ·exact aOa h w
 ·cases h
theorem JW{a:Aut}{x:Int}{l:List Str}(h:fU a x=some l):AOK a/\0<=x/\x<=2/\oI l/\l.length<=3000:=by
 unfold fU at h
 split at h
 ·rename_i hc
  exact⟨hc.1,hc.2.1,hc.2.2,aQm h⟩
 ·cases h
theorem L6{a:Aut}{x:Int}{l:List Str}(h:fU a x=some l){w:Str}(hw:w∈l):(w.length:Int)<=2*a.nx.length+x/\dR a.al w=true/\dL w=true:=by
 obtain⟨hv,h0,h2,_,_⟩:=JW h;obtain⟨_,_,a1,a2,_⟩:=aV hv;obtain⟨c,hc,m,hm,e,he,rfl⟩:=(aL2 h w).1 hw;have:=aJL hv hc hm he;have h3:=this.1;exact⟨by omega,this.ok (iC hv).2.2.2 om⟩
theorem aAl{R:Type}{E:Env}{call:aX}{h:H}{f:FuncId}{args:List A}{l:List Str}{b:Bool}{k:KA R}(hs:args.all qX=true)(hm:(E.hint f).mode=3)(hc:call f args []=some (.tup [.sl 0 0 0 l.length,.d (.bool b)],[.arr (aM l) 1 0])):
  aZ E call h f args k=k (.tup [.sl h.length 0 0 l.length,.d (.bool b)]) (h++[.arr (aM l) 1 0]):=by
 rw[QS hs hm hc (by simp only[kU,jS,u6,Bt,Cc,aCQ,Bv])];simp[mapA,aF,back,mapO]
theorem RF{R:Type}{E:Env}{call:aX}{h:H}{f:FuncId}{args:List A}{b:Bool}{k:KA R}(hs:args.all qX=true)(hm:(E.hint f).mode=3)(hc:call f args []=some (.tup [.d (.ivs 0 []),.d (.bool b)],[])):
  aZ E call h f args k=k (.tup [.d (.ivs 0 []),.d (.bool b)]) h:=by
 rw[QS hs hm hc rfl];simp[mapA,aF]
theorem aLJ{al q:Int}{rs:List (List Int)}{w:List UInt8}{i:Nat}(h:i<w.length):stGo al rs (w.drop i) q=stGo al rs (w.drop (i+1)) (goI al rs q (ltr (w.getD i 0))):=by
 rw[cA h (d:=0)];rfl
theorem YS{R:Type}{L n:Nat}(hn:1<=n){al:Int}{rs:List (List Int)}{ac:List Bool}{w:List UInt8}(hok:b8 al rs ac=true)(hw:dR al w=true){k:KE R}:∀(i q:Int) (m:Nat) (h0:0<=i) (hi:i<=w.length) (hm:(w.length:Int)-i<m) (hq0:0<=q) (hq1:q<rs.length),
  aS env (aA env L n) L 0 [] Bz33 (y6 0) (U1 (Z1 (U2 (Z2 (Z1 (U8 (U4 (U2 (Z2 (U8 (U4 ([])))))))))))) m (Y1 (.d (.str w)::Y2 (nI 0::.d (.ivs rs.length (ints (pI al rs)))::nI q::Y8 (Y4 (Y2 (nI (w.length)::nI i::Y8 (Y4 ([])))))))) [] k
  =k (.exit 0) (Y1 (.d (.str w)::Y2 (nI 0::.d (.ivs rs.length (ints (pI al rs)))::nI (stGo al rs (w.drop i.toNat) q)::Y8 (Y4 (Y2 (nI (w.length)::nI (w.length)::Y8 (Y4 ([])))))))) []:=by
 intro i q m h0 hi hm hq0 hq1;have htl:=kB al rs;have hlen:=iC hok;obtain⟨hal,hwl,hin⟩:=n4 hw;obtain⟨j,hj⟩:∃j:Nat,(j:Int)=(w.length:Int)-i:=⟨((w.length:Int)-i).toNat,by omega⟩
 induction j generalizing i q m with
 |zero=>
  obtain _|m:=m;omega;obtain rfl:i=w.length:=om
  simp-implicitDefEqProofs (maxSteps:=9^7) (disch:=try exact Dz) only[↓DN,↓kRet,UP,simprocAttr,Ah,z8,wI,Tryz.f55];simp only[Bw,stGo,List.foldl_nil]
 |succ j ih=>
  obtain _|m:=m;omega;have hc:i<w.length:=om;have hk:i.toNat<w.length:=om;have hb:w.getD i.toNat 0∈w:=by rw[Aa,Ae hk];exact At hk
  obtain⟨hb1,hb2⟩:=hin _ hb;have hl6:=aAT.1 hb1;have hg:=aAI hok hq0 hq1 hl6.1 hl6.2;have e1:(i+1).toNat=i.toNat+1:=om;have ih':=ih (i+1) (goI al rs q (ltr (w.getD i.toNat 0))) m om om om hg.1 hg.2 om;have hb3:eP (ltr (w.getD i.toNat 0))=true:=hb1;have hl0:=hl6.1;have hl1:=hl6.2;have hcl:(ltr (w.getD i.toNat 0)).toNat<=(List.drop (q.toNat*6) (ints (pI al rs))).length:=by rw[Cf,eN,htl];omega
  rw[aLJ hk,<-e1];clear ih hg hl6 hb hin hw hok
  simp-implicitDefEqProofs (maxSteps:=9^7) (disch:=try exact Dz) only[↓DN,↓kRet,UP,simprocAttr,↓EB,hc,hb3,X5,htl,↓ih',z8,wI,Tryz.f55]
theorem JS{L n:Nat}(hn:5<=n)(al:Int)(rs:List (List Int))(ac:List Bool)(w:List UInt8)(hs:aW rs)(ha:ac.length<=4294967296)(hwl:w.length<=4294967295)(hL:2^60<=L):aA env L n 55 [.agg [nI al,.d (.ivs rs.length (aI rs)),.d (.ivs ac.length (aD ac))],.d (.str w)] []=some (nI (x4 al rs ac w),[]):=by
 have hl:=hs.1;unfold x4
 cases hv:b8 al rs ac with
 |false=>
  obtain _|n:=n;omega
  simp-implicitDefEqProofs (maxSteps:=9^7) (disch:=try exact Dz) only[↓DN,↓kAsg,↓kRet,UP,simprocAttr,↓a6,hv,xT,tJ,Tryz.f55]
 |true=>
  cases hw:dR al w with
  |false=>
   obtain _|n:=n;omega
   simp-implicitDefEqProofs (maxSteps:=9^7) (disch:=try exact Dz) only[↓DN,↓kAsg,↓kRet,UP,simprocAttr,↓a6,↓K3,hv,hw,xT,tJ,Tryz.f55]
  |true=>
   have hwd:=oX hv;have hlen:=iC hv;have loop_a:=fun {R:Type} {n:Nat} (hn:1<=n) {k:KE R}=>YS (R:=R) (L:=L) (n:=n) hn (k:=k) hv hw 0 0 L om om om om om;simp only[Cv,Ba]at loop_a;obtain _|n:=n;omega
   simp-implicitDefEqProofs (maxSteps:=9^7) (disch:=try exact Dz) only[↓DN,↓kAsg,↓kRet,UP,simprocAttr,↓a6,↓K3,↓GR,hv,hw,↓loop_a,xT,tJ,Tryz.f55]
theorem aEh:type_of% fun {L} al rs ac w hs ha hwl hL=>ks fun hn=> @JS L _ hn al rs ac w hs ha hwl hL:=fun {L} al rs ac w hs ha hwl hL=>ks fun hn=> @JS L _ hn al rs ac w hs ha hwl hL
section
variable{R:Type}{L n:Nat}
theorem aPK:∀(x a:Fin 64),(∀m:Fin 6,cM (x.val:Int) (m.val:Int)=true->cM (a.val:Int) (m.val:Int)=true)->iAnd .i64 (x.val:Int) (a.val:Int)=(x.val:Int):=by decide+kernel
theorem aRS{x a:Int}(hx:cO x=true)(ha:cO a=true)(h:∀m:Int,eP m=true->cM x m=true->cM a m=true):iAnd .i64 x a=x:=by
 unfold cO at hx ha;simp only[decide_eq_true_eq]at hx ha
 have:=aPK ⟨x.toNat,by omega⟩ ⟨a.toNat,by omega⟩ (fun m=>by
  simp only[Bx hx.1,Bx ha.1];exact h m.val (wW.2 (by have:=m.isLt;omega)))
 simpa only[Bx hx.1,Bx ha.1]using this
theorem aNH{al:Int}{w:List UInt8}(h:dR al w=true):dL w=true:=by
 obtain⟨_,h2,h3⟩:=n4 h;unfold dL;simp only[Ar,decide_eq_true_eq,Bg];exact⟨h2,fun b hb=>(h3 b hb).1⟩
theorem aL8{al:Int}{w:List UInt8}(h:dR al w=true):cO (xC w)=true/\iAnd .i64 (xC w) al=xC w:=by
 obtain⟨h1,h2,h3⟩:=n4 h
 have hl:∀l∈w.map ltr,eP l=true:=by
  intro l hl;obtain⟨b,hb,rfl⟩:=Be.1 hl;exact(h3 b hb).1
 have hA:cO (xC w)=true:=aKF hl;refine⟨hA,aRS hA h1 fun m hm hb=> ?_⟩;unfold xC at hb;rw[aOn hl hm,List.any_eq_true]at hb;obtain⟨l,hlm,hd⟩:=hb;simp only[decide_eq_true_eq]at hd;obtain⟨b,hb,rfl⟩:=Be.1 hlm;rw[hd];exact(h3 b hb).2
def accW(a:Aut)(w:List UInt8):Bool:=a.ac.getD (stGo a.al a.nx w 0).toNat false
theorem aHZ{a:Aut}(ha:AOK a):∀(w:List UInt8) (q:Int),(∀b∈w,okB b=true)->0<=q->q<a.nx.length->0<=stGo a.al a.nx w q/\stGo a.al a.nx w q<a.nx.length
 | [],q,_,h0,h1=>⟨h0,h1⟩
 |b::w,q,hw,h0,h1=>by
  have hl:=aAT.1 (hw b Bi);have hg:=aAI ha h0 h1 hl.1 hl.2;exact aHZ ha w _ (fun x hx=>hw x (Bf _ hx)) hg.1 hg.2
theorem aK7{a:Aut}(ha:AOK a){w:List UInt8}(hw:dR a.al w=true):0<=stGo a.al a.nx w 0/\stGo a.al a.nx w 0<a.ac.length:=by
 obtain⟨_,_,a1,_,a3⟩:=aV ha;obtain⟨_,_,h3⟩:=n4 hw;have:=aHZ ha w 0 (fun b hb=>(h3 b hb).1) om om;omega
theorem GV(hn:6<=n)(a:Aut)(w:List UInt8)(ha:AOK a)(hw:dR a.al w=true)(hL:2^60<=L):aA env L n 23 [.agg [nI a.al,.d (.ivs a.nx.length (aI a.nx)),.d (.ivs a.ac.length (aD a.ac))],.d (.str w)] []=some (.d (.bool (accW a w)),[]):=by
 obtain⟨sa,wa,a1,a2,a3⟩:=aV ha;obtain⟨r0,r1⟩:=aK7 ha hw;obtain⟨_,hwl,_⟩:=n4 hw;have kc_s:=@aEh L a.al a.nx a.ac w sa om om hL
 have e:x4 a.al a.nx a.ac w=stGo a.al a.nx w 0:=by
  unfold x4;rw[show b8 a.al a.nx a.ac=true from ha,hw];rfl
 rw[e]at kc_s;unfold accW;clear wa ha hw e;generalize stGo a.al a.nx w 0=q at *;obtain _|n:=n;omega
 simp-implicitDefEqProofs (maxSteps:=9^7) (disch:=try exact Dz) only[↓DN,↓kAsg,↓kRet,UP,simprocAttr,LA,r0,r1,↓kc_s,aBM,JX,Tryz.f23]
theorem oS:type_of% fun {L} a w ha hw hL=>ks fun hn=> @GV L _ hn a w ha hw hL:=fun {L} a w ha hw hL=>ks fun hn=> @GV L _ hn a w ha hw hL
theorem YL(hn:2<=n){s:List UInt8}(hs:s.length<=50000)(ha:s.all okB=true){k:KE R}:∀(i o:Int) (m:Nat) (h0:0<=i) (hi:i<=s.length) (hm:(s.length:Int)-i<m),
  aS env (aA env L n) L 0 [] (U1 (Z1 (U4 (Z16 ([]))))) (yD 0) (Z1 (U1 (Z4 (U16 ([]))))) m (.d (.str s)::Y1 (nI 0::.d (.bool false)::nI o::nI i::Y16 ([]))) [] k
  =k (.exit 0) (.d (.str s)::Y1 (nI 0::.d (.bool false)::nI ((s.drop i.toNat).foldl (fun o b=>iOr .i64 o (bitI (ltr b))) o)::nI (s.length)::Y16 ([]))) []:=by
 intro i o m h0 hi hm;obtain⟨j,hj⟩:∃j:Nat,(j:Int)=(s.length:Int)-i:=⟨((s.length:Int)-i).toNat,by omega⟩
 induction j generalizing i m o with
 |zero=>
  obtain _|m:=m;omega;obtain rfl:i=s.length:=om
  simp-implicitDefEqProofs (maxSteps:=9^7) (disch:=try exact Dz) only[↓DN,↓kRet,UP,simprocAttr,Ah,AA,vV,Tryz.f146];simp only[Bw,List.foldl_nil]
 |succ j ih=>
  obtain _|m:=m;omega;have hc:i<s.length:=om;have hk:i.toNat<s.length:=om;have e1:(i+1).toNat=i.toNat+1:=om;have hb:=aSp (d:=0) ha hk;have hsl:=wW.1 hb;have hsl0:=hsl.1;have hsl1:ltr (s.getD i.toNat 0)<=9223372036854775807:=om;rw[aPN hk (d:=0),<-e1];have ih':=ih (i+1) (iOr .i64 o (bitI (ltr (s.getD i.toNat 0)))) m om om om om;clear ih hsl
  simp-implicitDefEqProofs (maxSteps:=9^7) (disch:=try exact Dz) only[↓DN,↓kRet,UP,simprocAttr,↓CZ,↓aMb,hc,↓ih',AA,vV,Tryz.f146]
theorem KG(hn:4<=n)(s:List UInt8)(hw:dL s=true)(hL:2^60<=L):aA env L n 146 [.d (.str s)] []=some (.tup [nI (xC s),.d (.bool true)],[]):=by
 have hw':=hw;unfold dL at hw';simp only[Ar,decide_eq_true_eq]at hw';obtain⟨hw1,hw2⟩:=hw'
 have e:s.foldl (fun o b=>iOr .i64 o (bitI (ltr b))) 0=xC s:=by
  unfold xC aHF;rw[List.foldl_map]
 have loop_a:=fun {R n k} hn=> @YL R L n hn s hw1 hw2 k 0 0 L om om om;simp only[Cv,Ba,e]at loop_a;obtain _|n:=n;omega
 simp-implicitDefEqProofs (maxSteps:=9^7) (disch:=try exact Dz) only[↓DN,↓kAsg,↓kRet,UP,simprocAttr,↓sR,hw,↓loop_a,aCC,N5,Tryz.f146]
theorem aEd:type_of% fun {L} s hw hL=>ks fun hn=> @KG L _ hn s hw hL:=fun {L} s hw hL=>ks fun hn=> @KG L _ hn s hw hL
theorem J6(hn:5<=n)(s:List UInt8)(al:Int)(hw:dR al s=true)(hL:2^60<=L):aA env L n 124 [.d (.str s),nI al] []=some (.d (.bool true),[]):=by
 have h1:=aNH hw;obtain⟨h2,h3⟩:=aL8 hw;have h4:=(n4 hw).1;obtain _|n:=n;omega
 simp-implicitDefEqProofs (maxSteps:=9^7) (disch:=try exact Dz) only[↓DN,↓kAsg,↓kRet,UP,simprocAttr,↓aEd,↓gM,h3,h4,aEj,M0,Tryz.f124]
theorem aCI:type_of% fun {L} s al hw hL=>ks fun hn=> @J6 L _ hn s al hw hL:=fun {L} s al hw hL=>ks fun hn=> @J6 L _ hn s al hw hL
theorem aIk(hn:4<=n)(hL:2^60<=L){a:Aut}{w:List UInt8}(ha:AOK a)(hw:dR a.al w=true){k:KE R}:∀(i q:Int) (m:Nat) (h0:0<=i) (hi:i<=w.length) (hm:(w.length:Int)-i<m) (hq0:0<=q) (hq1:q<a.nx.length),
  aS env (aA env L n) L 0 [] Bz49 (QB 0) (U1 (Z2 (Z1 (U2 (Z2 (U8 (U4 (U1 ([]))))))))) m (Y1 (nI q::.d (.str w)::.ptr 0 0 0::Y2 (nI 0::nI i::Y8 (Y4 (Y1 ([])))))) [.box [nI a.al,.d (.ivs a.nx.length (aI a.nx)),.d (.ivs a.ac.length (aD a.ac))]] k
  =k (.exit 0) (Y1 (nI (stGo a.al a.nx (w.drop i.toNat) q)::.d (.str w)::.ptr 0 0 0::Y2 (nI 0::nI (w.length)::Y8 (Y4 (Y1 ([])))))) [.box [nI a.al,.d (.ivs a.nx.length (aI a.nx)),.d (.ivs a.ac.length (aD a.ac))]]:=by
 intro i q m h0 hi hm hq0 hq1;obtain⟨sa,wa,a1,a2,a3⟩:=aV ha;obtain⟨hal,hwl,hin⟩:=n4 hw;obtain⟨j,hj⟩:∃j:Nat,(j:Int)=(w.length:Int)-i:=⟨((w.length:Int)-i).toNat,by omega⟩
 induction j generalizing i q m with
 |zero=>
  obtain _|m:=m;omega;obtain rfl:i=w.length:=om
  simp-implicitDefEqProofs (maxSteps:=9^7) (disch:=try exact Dz) only[↓DN,↓kRet,UP,simprocAttr,Ah,M5,MZ,Tryz.f125];simp only[Bw,stGo,List.foldl_nil]
 |succ j ih=>
  obtain _|m:=m;omega;have hc:i<w.length:=om;have hk:i.toNat<w.length:=om;have hb:w.getD i.toNat 0∈w:=by rw[Aa,Ae hk];exact At hk
  have hl6:=aAT.1 (hin _ hb).1;have hg:=aAI ha hq0 hq1 hl6.1 hl6.2;have e1:(i+1).toNat=i.toNat+1:=om;have ih':=ih (i+1) (goI a.al a.nx q (ltr (w.getD i.toNat 0))) m om om om hg.1 hg.2 om;have kc_g:=@aF8 L a.al q (ltr (w.getD i.toNat 0)) a.nx a.ac.length (aD a.ac) sa (oX ha) hq0 hq1 hl6.1 hl6.2 hL;rw[aLJ hk,<-e1];clear ih hg hl6 hb hin
  simp-implicitDefEqProofs (maxSteps:=9^7) (disch:=try exact Dz) only[↓DN,↓kRet,UP,simprocAttr,↓CZ,hc,↓kc_g,Bh,↓ih',M5,MZ,Tryz.f125]
theorem aEf(hn:5<=n)(a:Aut)(w:List UInt8)(ha:AOK a)(hw:dR a.al w=true)(hL:2^60<=L):aA env L n 125 [.agg [nI a.al,.d (.ivs a.nx.length (aI a.nx)),.d (.ivs a.ac.length (aD a.ac))],nI 0,.d (.str w)] []=some (nI (stGo a.al a.nx w 0),[]):=by
 obtain⟨_,_,a1,_,_⟩:=aV ha;obtain⟨_,hwl,_⟩:=n4 hw;have loop_a:=fun {R n k} hn=> @aIk R L n hn hL a w ha hw k 0 0 L om om om om om;simp only[Cv,Ba]at loop_a;obtain _|n:=n;omega
 simp-implicitDefEqProofs (maxSteps:=9^7) (disch:=try exact Dz) only[↓DN,↓kAsg,↓kRet,UP,simprocAttr,↓loop_a,aME,aF9,Tryz.f125]
theorem aMo:type_of% fun {L} a w ha hw hL=>ks fun hn=> @aEf L _ hn a w ha hw hL:=fun {L} a w ha hw hL=>ks fun hn=> @aEf L _ hn a w ha hw hL
theorem HQ(hn:9<=n)(a:Aut)(w:List UInt8)(ha:AOK a)(hw:dR a.al w=true)(hL:2^60<=L):aA env L n 54 [.agg [nI a.al,.d (.ivs a.nx.length (aI a.nx)),.d (.ivs a.ac.length (aD a.ac))],.d (.str w)] []=some (.d (.bool (accW a w)),[]):=by
 obtain⟨sa,wa,a1,a2,a3⟩:=aV ha;obtain⟨r0,r1⟩:=aK7 ha hw;have hrl:=sa.1;have hac:a.ac.length<=4294967296:=om
 have ev:∀ {n:Nat},8<=n->aA env L n 91 [.agg [nI a.al,.d (.ivs a.nx.length (aI a.nx)),.d (.ivs a.ac.length (aD a.ac))],.d (.str w)] []=some (nI (stGo a.al a.nx w 0),[]):=by
  intro n hn;have hve:b8 a.al a.nx a.ac=true:=ha;have kc_r:=@aMo L a w ha hw hL;have kc_w:=@aCI L w a.al hw hL;clear r0 r1;obtain _|n:=n;omega
  simp-implicitDefEqProofs (maxSteps:=9^7) (disch:=try exact Dz) only[↓DN,↓kAsg,↓kRet,UP,simprocAttr,↓a8,hve,↓kc_r,↓kc_w,aCn,NT,Tryz.f91]
 have kc_s:=fun {R:Type} {n:Nat} {hq:H} {k:KA R} (hn:8<=n)=>bZ (E:=env) (call:=aA env L n) (h:=hq) (k:=k) (f:=91) rfl (ev hn) rfl (.inl rfl);unfold accW;clear wa ha hw ev;generalize stGo a.al a.nx w 0=q at *;obtain _|n:=n;omega
 simp-implicitDefEqProofs (maxSteps:=9^7) (disch:=try exact Dz) only[↓DN,↓kAsg,↓kRet,UP,simprocAttr,LA,r0,r1,↓kc_s,aBP,JV,Tryz.f54]
theorem G7:type_of% fun {L} a w ha hw hL=>ks fun hn=> @HQ L _ hn a w ha hw hL:=fun {L} a w ha hw hL=>ks fun hn=> @HQ L _ hn a w ha hw hL
end
section
variable{R:Type}{L n:Nat}
def vL(a b:Aut):Bool:=b8 a.al a.nx a.ac&&b8 b.al b.nx b.ac&&decide (a.al=b.al)
theorem W0{a b:Aut}:vL a b=true↔AOK a/\AOK b/\a.al=b.al:=by
 unfold vL AOK;simp only[Ar,decide_eq_true_eq,and_assoc]
def pZ(a b:Aut)(l:List Str)(i:Nat):Bool:=!(accW a (l.getD i [])==accW b (l.getD i []))
def aHI(a b:Aut)(l:List Str):Str×Bool:=match seek (pZ a b l) l.length 0 with
 |none=>([],false)
 |some q=>(l.getD q [],true)
def PX(a b:Aut)(x:Int):Str×Bool:=match fU a x with
 |none=>([],false)
 |some l=>if vL a b=true then aHI a b l else([],false)
theorem GW(hn:6<=n)(a b:Aut)(sa:aW a.nx)(sb:aW b.nx)(ha:a.ac.length<=4294967296)(hb:b.ac.length<=4294967296)(hL:2^60<=L):aA env L n 52 [.agg [nI a.al,.d (.ivs a.nx.length (aI a.nx)),.d (.ivs a.ac.length (aD a.ac))],.agg [nI b.al,.d (.ivs b.nx.length (aI b.nx)),.d (.ivs b.ac.length (aD b.ac))]] []=some (.d (.bool (vL a b)),[]):=by
 have hra:=sa.1;have hrb:=sb.1;unfold vL
 cases h1:b8 a.al a.nx a.ac with
 |false=>
  obtain _|n:=n;omega
  simp-implicitDefEqProofs (maxSteps:=9^7) (disch:=try exact Dz) only[↓DN,↓kAsg,↓kRet,UP,simprocAttr,↓a6,h1,vT,qN,Tryz.f52]
 |true=>
  cases h2:b8 b.al b.nx b.ac with
  |false=>
   obtain _|n:=n;omega
   simp-implicitDefEqProofs (maxSteps:=9^7) (disch:=try exact Dz) only[↓DN,↓kAsg,↓kRet,UP,simprocAttr,↓a6,h1,h2,vT,qN,Tryz.f52]
  |true=>
   obtain _|n:=n;omega
   simp-implicitDefEqProofs (maxSteps:=9^7) (disch:=try exact Dz) only[↓DN,↓kAsg,↓kRet,UP,simprocAttr,↓a6,h1,h2,vT,qN,Tryz.f52]
theorem aBm:type_of% fun {L} a b sa sb ha hb hL=>ks fun hn=> @GW L _ hn a b sa sb ha hb hL:=fun {L} a b sa sb ha hb hL=>ks fun hn=> @GW L _ hn a b sa sb ha hb hL
theorem SR(hn:7<=n)(hL:2^60<=L){a b:Aut}{l:List Str}(hl:l.length<=3000)(ha:AOK a)(hb:AOK b)(hal:a.al=b.al)(hok:∀w∈l,dR a.al w=true){k:KE R}:∀(j i m:Nat) (hi:i+j=l.length) (hm:j<m),
  aS env (aA env L n) L 0 [] Bz30 (t7 0) (U2 (U1 (Z2 (U1 (Z2 (U16 (U2 (Z2 (Z1 (U8 (U4 ([])))))))))))) m (Y2 (Y1 (.ptr 0 0 0::.ptr 1 0 0::Y1 (.d (.str ([]))::.d (.bool false)::Y16 (Y2 (.sl 2 0 0 l.length::nI (l.length)::nI i::Y8 (Y4 ([])))))))) [.box [nI a.al,.d (.ivs a.nx.length (aI a.nx)),.d (.ivs a.ac.length (aD a.ac))],.box [nI b.al,.d (.ivs b.nx.length (aI b.nx)),.d (.ivs b.ac.length (aD b.ac))],.arr (aM l) 1 0] k
  =match seek (pZ a b l) j i with
   |none=>k (.exit 0) (Y2 (Y1 (.ptr 0 0 0::.ptr 1 0 0::Y1 (.d (.str ([]))::.d (.bool false)::Y16 (Y2 (.sl 2 0 0 l.length::nI (l.length)::nI (l.length)::Y8 (Y4 ([])))))))) [.box [nI a.al,.d (.ivs a.nx.length (aI a.nx)),.d (.ivs a.ac.length (aD a.ac))],.box [nI b.al,.d (.ivs b.nx.length (aI b.nx)),.d (.ivs b.ac.length (aD b.ac))],.arr (aM l) 1 0]
   |some q=>k .ret (Y2 (Y1 (.ptr 0 0 0::.ptr 1 0 0::Y1 (.d (.str ((l.getD q [])))::.d (.bool true)::Y16 (Y2 (.sl 2 0 0 l.length::nI (l.length)::nI q::Y8 (Y4 ([])))))))) [.box [nI a.al,.d (.ivs a.nx.length (aI a.nx)),.d (.ivs a.ac.length (aD a.ac))],.box [nI b.al,.d (.ivs b.nx.length (aI b.nx)),.d (.ivs b.ac.length (aD b.ac))],.arr (aM l) 1 0]:=by
 intro j
 induction j with
 |zero=>
  intro i m hi hm;obtain _|m:=m;omega;obtain rfl:i=l.length:=om
  simp-implicitDefEqProofs (maxSteps:=9^7) (disch:=try exact Dz) only[↓DN,↓kRet,UP,simprocAttr,Ah,nV,lO,Tryz.f20]<;>rfl
 |succ j ih=>
  intro i m hi hm;obtain _|m:=m;omega;have hc:(i:Int)<l.length:=om;have hi0:(0:Int)<=i:=om;have hw:=hok _ (d6 (show i<l.length by omega));have kc_a:=@oS L a (l.getD i []) ha hw hL;have kc_b:=@oS L b (l.getD i []) hb (by rw[<-hal];exact hw) hL;have hwr:pZ a b l i= !(accW a (l.getD i [])==accW b (l.getD i [])):=rfl
  by_cases hz:(accW a (l.getD i [])==accW b (l.getD i []))=true
  ·rw[hz]at hwr;rw[gT hwr];have ih':=ih (i+1) m om om;rw[cs1 i]at ih';clear ih hok hw hwr ha hb;generalize accW a (l.getD i [])=x at *;generalize accW b (l.getD i [])=y at *;generalize hwi:l.getD i []=w at *
   simp-implicitDefEqProofs (maxSteps:=9^7) (disch:=try exact Dz) only[↓DN,↓kRet,UP,simprocAttr,SE,hc,hi0,hwi,hz,↓kc_a,↓kc_b,Bh,↓ih',nV,lO,Tryz.f20]
  ·rw[Bool.not_eq_true]at hz;rw[hz]at hwr;rw[eY hwr];clear ih hok hw hwr ha hb;generalize accW a (l.getD i [])=x at *;generalize accW b (l.getD i [])=y at *;generalize hwi:l.getD i []=w at *
   simp-implicitDefEqProofs (maxSteps:=9^7) (disch:=try exact Dz) only[↓DN,↓kAsg,↓kRet,UP,simprocAttr,SE,hc,hi0,hwi,hz,↓kc_a,↓kc_b,Bh,nV,lO,Tryz.f20]
theorem EM(hn:16<=n)(a b:Aut)(x:Int)(sa:aW a.nx)(sb:aW b.nx)(ha:a.ac.length<=4294967296)(hb:b.ac.length<=4294967296)(hL:2^60<=L):aA env L n 20 [.agg [nI a.al,.d (.ivs a.nx.length (aI a.nx)),.d (.ivs a.ac.length (aD a.ac))],.agg [nI b.al,.d (.ivs b.nx.length (aI b.nx)),.d (.ivs b.ac.length (aD b.ac))],nI x] []=some (.tup [.d (.str (PX a b x).1),.d (.bool (PX a b x).2)],[]):=by
 have hra:=sa.1;have hrb:=sb.1;have hI:=fun {n:Nat} (hn:15<=n)=>OG (L:=L) hn a x sa ha hL;unfold PX
 cases hG:fU a x with
 |none=>
  rw[hG]at hI;have kc_1:=fun {R:Type} {n:Nat} {hq:H} {k:KA R} (hn:15<=n)=>RF (h:=hq) (k:=k) rfl iU (hI hn);clear hI;obtain _|n:=n;omega
  simp-implicitDefEqProofs (maxSteps:=9^7) (disch:=try exact Dz) only[↓DN,↓kAsg,↓kRet,UP,simprocAttr,↓kc_1,mR,kR,Tryz.f20]
 |some l=>
  rw[hG]at hI;have kc_1:=fun {R:Type} {n:Nat} {hq:H} {k:KA R} (hn:15<=n)=>aAl (h:=hq) (k:=k) rfl iU (hI hn);have kc_c:=@aBm L a b sa sb ha hb hL;obtain⟨hv,y0,_,_,hl⟩:=JW hG;clear hI
  cases hcm:vL a b with
  |false=>
   rw[hcm]at kc_c;simp only[Ak,if_false];obtain _|n:=n;omega
   simp-implicitDefEqProofs (maxSteps:=9^7) (disch:=try exact Dz) only[↓DN,↓kAsg,↓kRet,UP,simprocAttr,↓kc_1,↓kc_c,mR,kR,Tryz.f20]
  |true=>
   rw[hcm]at kc_c;obtain⟨va,vb,hal⟩:=W0.1 hcm;have loop_a:=fun {R n k} hn=> @SR R L n hn hL a b l hl va vb hal (fun w hw=>(L6 hG hw).2.1) k l.length 0 L om om;simp only[Ap]at loop_a;simp only[if_true];unfold aHI;clear hv va vb hG
   cases hs:seek (pZ a b l) l.length 0 with
   |none=>
    simp only[hs]at loop_a;obtain _|n:=n;omega
    simp-implicitDefEqProofs (maxSteps:=9^7) (disch:=try exact Dz) only[↓DN,↓kAsg,↓kRet,UP,simprocAttr,↓kc_1,↓kc_c,↓loop_a,mR,kR,Tryz.f20]
   |some q=>
    simp only[hs]at loop_a;obtain _|n:=n;omega
    simp-implicitDefEqProofs (maxSteps:=9^7) (disch:=try exact Dz) only[↓DN,↓kAsg,↓kRet,UP,simprocAttr,↓kc_1,↓kc_c,↓loop_a,mR,kR,Tryz.f20]
theorem Y5:type_of% fun {L} a b x sa sb ha hb hL=>ks fun hn=> @EM L _ hn a b x sa sb ha hb hL:=fun {L} a b x sa sb ha hb hL=>ks fun hn=> @EM L _ hn a b x sa sb ha hb hL
theorem aDl(hn:6<=n)(a b:Aut)(sa:aW a.nx)(sb:aW b.nx)(ha:a.ac.length<=4294967296)(hb:b.ac.length<=4294967296)(hL:2^60<=L):aA env L n 53 [.agg [nI a.al,.d (.ivs a.nx.length (aI a.nx)),.d (.ivs a.ac.length (aD a.ac))],.agg [nI b.al,.d (.ivs b.nx.length (aI b.nx)),.d (.ivs b.ac.length (aD b.ac))]] []=some (.d (.bool (vL a b)),[]):=by
 have hra:=sa.1;have hrb:=sb.1;unfold vL
 cases h1:b8 a.al a.nx a.ac with
 |false=>
  obtain _|n:=n;omega
  simp-implicitDefEqProofs (maxSteps:=9^7) (disch:=try exact Dz) only[↓DN,↓kAsg,↓kRet,UP,simprocAttr,↓a8,h1,O4,KN,Tryz.f53]
 |true=>
  cases h2:b8 b.al b.nx b.ac with
  |false=>
   obtain _|n:=n;omega
   simp-implicitDefEqProofs (maxSteps:=9^7) (disch:=try exact Dz) only[↓DN,↓kAsg,↓kRet,UP,simprocAttr,↓a8,h1,h2,O4,KN,Tryz.f53]
  |true=>
   obtain _|n:=n;omega
   simp-implicitDefEqProofs (maxSteps:=9^7) (disch:=try exact Dz) only[↓DN,↓kAsg,↓kRet,UP,simprocAttr,↓a8,h1,h2,O4,KN,Tryz.f53]
theorem aMv:type_of% fun {L} a b sa sb ha hb hL=>ks fun hn=> @aDl L _ hn a b sa sb ha hb hL:=fun {L} a b sa sb ha hb hL=>ks fun hn=> @aDl L _ hn a b sa sb ha hb hL
theorem SK(hn:9<=n)(hL:2^60<=L){a b:Aut}{l:List Str}(hl:l.length<=3000)(ha:AOK a)(hb:AOK b)(hal:a.al=b.al)(hok:∀w∈l,dR a.al w=true){k:KE R}:∀(j i m:Nat) (hi:i+j=l.length) (hm:j<m),
  aS env (aA env L n) L 0 [] Bz31 (uD 0) (U2 (U1 (Z2 (U1 (Z2 (Z1 (U1 (Z1 (U32 (U4 (U1 ([])))))))))))) m (Y2 (Y1 (.ptr 0 0 0::.ptr 1 0 0::Y1 (.d (.str ([]))::.d (.bool false)::.d (.ivs l.length (aM l))::Y1 (nI i::Y32 (Y4 (Y1 ([])))))))) [.box [nI a.al,.d (.ivs a.nx.length (aI a.nx)),.d (.ivs a.ac.length (aD a.ac))],.box [nI b.al,.d (.ivs b.nx.length (aI b.nx)),.d (.ivs b.ac.length (aD b.ac))]] k
  =match seek (pZ a b l) j i with
   |none=>k (.exit 0) (Y2 (Y1 (.ptr 0 0 0::.ptr 1 0 0::Y1 (.d (.str ([]))::.d (.bool false)::.d (.ivs l.length (aM l))::Y1 (nI (l.length)::Y32 (Y4 (Y1 ([])))))))) [.box [nI a.al,.d (.ivs a.nx.length (aI a.nx)),.d (.ivs a.ac.length (aD a.ac))],.box [nI b.al,.d (.ivs b.nx.length (aI b.nx)),.d (.ivs b.ac.length (aD b.ac))]]
   |some q=>k .ret (Y2 (Y1 (.ptr 0 0 0::.ptr 1 0 0::Y1 (.d (.str ((l.getD q [])))::.d (.bool true)::.d (.ivs l.length (aM l))::Y1 (nI q::Y32 (Y4 (Y1 ([])))))))) [.box [nI a.al,.d (.ivs a.nx.length (aI a.nx)),.d (.ivs a.ac.length (aD a.ac))],.box [nI b.al,.d (.ivs b.nx.length (aI b.nx)),.d (.ivs b.ac.length (aD b.ac))]]:=by
 intro j
 induction j with
 |zero=>
  intro i m hi hm;obtain _|m:=m;omega;obtain rfl:i=l.length:=om
  simp-implicitDefEqProofs (maxSteps:=9^7) (disch:=try exact Dz) only[↓DN,↓kRet,UP,simprocAttr,Ah,nE,lP,Tryz.f21]<;>rfl
 |succ j ih=>
  intro i m hi hm;obtain _|m:=m;omega;have hc:(i:Int)<l.length:=om;have hi0:(0:Int)<=i:=om;have hw:=hok _ (d6 (show i<l.length by omega));have kc_a:=@G7 L a (l.getD i []) ha hw hL;have kc_b:=@G7 L b (l.getD i []) hb (by rw[<-hal];exact hw) hL;have hwr:pZ a b l i= !(accW a (l.getD i [])==accW b (l.getD i [])):=rfl
  by_cases hz:(accW a (l.getD i [])==accW b (l.getD i []))=true
  ·rw[hz]at hwr;rw[gT hwr];have ih':=ih (i+1) m om om;rw[cs1 i]at ih';clear ih hok hw hwr ha hb;generalize accW a (l.getD i [])=x at *;generalize accW b (l.getD i [])=y at *;generalize hwi:l.getD i []=w at *
   simp-implicitDefEqProofs (maxSteps:=9^7) (disch:=try exact Dz) only[↓DN,↓kRet,UP,simprocAttr,SE,hc,hi0,hwi,hz,↓kc_a,↓kc_b,Bh,↓ih',nE,lP,Tryz.f21]
  ·rw[Bool.not_eq_true]at hz;rw[hz]at hwr;rw[eY hwr];clear ih hok hw hwr ha hb;generalize accW a (l.getD i [])=x at *;generalize accW b (l.getD i [])=y at *;generalize hwi:l.getD i []=w at *
   simp-implicitDefEqProofs (maxSteps:=9^7) (disch:=try exact Dz) only[↓DN,↓kAsg,↓kRet,UP,simprocAttr,SE,hc,hi0,hwi,hz,↓kc_a,↓kc_b,Bh,nE,lP,Tryz.f21]
theorem EV(hn:16<=n)(a b:Aut)(x:Int)(sa:aW a.nx)(sb:aW b.nx)(ha:a.ac.length<=4294967296)(hb:b.ac.length<=4294967296)(hL:2^60<=L):aA env L n 21 [.agg [nI a.al,.d (.ivs a.nx.length (aI a.nx)),.d (.ivs a.ac.length (aD a.ac))],.agg [nI b.al,.d (.ivs b.nx.length (aI b.nx)),.d (.ivs b.ac.length (aD b.ac))],nI x] []=some (.tup [.d (.str (PX a b x).1),.d (.bool (PX a b x).2)],[]):=by
 have hra:=sa.1;have hrb:=sb.1;have kc_1:=@aEO L a x sa ha hL;unfold PX
 cases hG:fU a x with
 |none=>
  rw[hG]at kc_1;simp only[Option.getD_none,Cq,Ac,kL]at kc_1;obtain _|n:=n;omega
  simp-implicitDefEqProofs (maxSteps:=9^7) (disch:=try exact Dz) only[↓DN,↓kAsg,↓kRet,UP,simprocAttr,↓kc_1,mU,kY,Tryz.f21]
 |some l=>
  rw[hG]at kc_1;simp only[Bb,Df]at kc_1;have kc_c:=@aMv L a b sa sb ha hb hL;obtain⟨hv,y0,_,_,hl⟩:=JW hG
  cases hcm:vL a b with
  |false=>
   rw[hcm]at kc_c;simp only[Ak,if_false];obtain _|n:=n;omega
   simp-implicitDefEqProofs (maxSteps:=9^7) (disch:=try exact Dz) only[↓DN,↓kAsg,↓kRet,UP,simprocAttr,↓kc_1,↓kc_c,mU,kY,Tryz.f21]
  |true=>
   rw[hcm]at kc_c;obtain⟨va,vb,hal⟩:=W0.1 hcm;have loop_a:=fun {R n k} hn=> @SK R L n hn hL a b l hl va vb hal (fun w hw=>(L6 hG hw).2.1) k l.length 0 L om om;simp only[Ap]at loop_a;simp only[if_true];unfold aHI;clear hv va vb hG
   cases hs:seek (pZ a b l) l.length 0 with
   |none=>
    simp only[hs]at loop_a;obtain _|n:=n;omega
    simp-implicitDefEqProofs (maxSteps:=9^7) (disch:=try exact Dz) only[↓DN,↓kAsg,↓kRet,UP,simprocAttr,↓kc_1,↓kc_c,↓loop_a,mU,kY,Tryz.f21]
   |some q=>
    simp only[hs]at loop_a;obtain _|n:=n;omega
    simp-implicitDefEqProofs (maxSteps:=9^7) (disch:=try exact Dz) only[↓DN,↓kAsg,↓kRet,UP,simprocAttr,↓kc_1,↓kc_c,↓loop_a,mU,kY,Tryz.f21]
theorem YX:type_of% fun {L} a b x sa sb ha hb hL=>ks fun hn=> @EV L _ hn a b x sa sb ha hb hL:=fun {L} a b x sa sb ha hb hL=>ks fun hn=> @EV L _ hn a b x sa sb ha hb hL
end
theorem aJn{L n:Nat}(hn:7<=n)(a b:Aut)(sa:aW a.nx)(sb:aW b.nx)(ha:a.ac.length<=4294967296)(hb:b.ac.length<=4294967296)(hL:2^60<=L):aA env L n 22 [.agg [nI a.al,.d (.ivs a.nx.length (aI a.nx)),.d (.ivs a.ac.length (aD a.ac))],.agg [nI b.al,.d (.ivs b.nx.length (aI b.nx)),.d (.ivs b.ac.length (aD b.ac))]] []=some (.d (.bool (vL a b)),[]):=by
 have hra:=sa.1;have hrb:=sb.1;unfold vL
 cases h1:b8 a.al a.nx a.ac with
 |false=>
  obtain _|n:=n;omega
  simp-implicitDefEqProofs (maxSteps:=9^7) (disch:=try exact Dz) only[↓DN,↓kAsg,↓kRet,UP,simprocAttr,↓a6,h1,aBu,XJ,Tryz.f22]
 |true=>
  cases h2:b8 b.al b.nx b.ac with
  |false=>
   obtain _|n:=n;omega
   simp-implicitDefEqProofs (maxSteps:=9^7) (disch:=try exact Dz) only[↓DN,↓kAsg,↓kRet,UP,simprocAttr,↓a6,h1,h2,aBu,XJ,Tryz.f22]
  |true=>
   obtain _|n:=n;omega
   simp-implicitDefEqProofs (maxSteps:=9^7) (disch:=try exact Dz) only[↓DN,↓kAsg,↓kRet,UP,simprocAttr,↓a6,h1,h2,aBu,XJ,Tryz.f22]
theorem aPV:type_of% fun {L} a b sa sb ha hb hL=>ks fun hn=> @aJn L _ hn a b sa sb ha hb hL:=fun {L} a b sa sb ha hb hL=>ks fun hn=> @aJn L _ hn a b sa sb ha hb hL
theorem S4{R:Type}{L n:Nat}(hn:7<=n)(hL:2^60<=L){a b:Aut}{l:List Str}(hl:l.length<=3000)(ha:AOK a)(hb:AOK b)(hal:a.al=b.al)(hok:∀w∈l,dR a.al w=true){w:Str}{ok:Bool}{k:KE R}:∀(j i m:Nat) (hi:i+j=l.length) (hm:j<m),
  aS env (aA env L n) L 0 [] Bz20 (uB 0) (U2 (Z2 (Z1 (U1 (Z2 (U2 (Z1 (U1 (Z1 (U32 (U32 (U16 (U8 (U1 ([]))))))))))))))) m (Y2 (.d (.bool false)::.ptr 0 0 0::.ptr 1 0 0::Y1 (.d (.str w)::.d (.bool ok)::Y2 (.sl 2 0 0 l.length::Y1 (nI i::Y32 (Y32 (Y16 (Y8 (Y1 ([])))))))))) [.box [nI a.al,.d (.ivs a.nx.length (aI a.nx)),.d (.ivs a.ac.length (aD a.ac))],.box [nI b.al,.d (.ivs b.nx.length (aI b.nx)),.d (.ivs b.ac.length (aD b.ac))],.arr (aM l) 1 0] k
  =match seek (pZ a b l) j i with
   |none=>k (.exit 0) (Y2 (.d (.bool false)::.ptr 0 0 0::.ptr 1 0 0::Y1 (.d (.str w)::.d (.bool ok)::Y2 (.sl 2 0 0 l.length::Y1 (nI (l.length)::Y32 (Y32 (Y16 (Y8 (Y1 ([])))))))))) [.box [nI a.al,.d (.ivs a.nx.length (aI a.nx)),.d (.ivs a.ac.length (aD a.ac))],.box [nI b.al,.d (.ivs b.nx.length (aI b.nx)),.d (.ivs b.ac.length (aD b.ac))],.arr (aM l) 1 0]
   |some q=>k .ret (Y2 (.d (.bool ((ok&&(l.getD q []==w))))::.ptr 0 0 0::.ptr 1 0 0::Y1 (.d (.str w)::.d (.bool ok)::Y2 (.sl 2 0 0 l.length::Y1 (nI q::Y32 (Y32 (Y16 (Y8 (Y1 ([])))))))))) [.box [nI a.al,.d (.ivs a.nx.length (aI a.nx)),.d (.ivs a.ac.length (aD a.ac))],.box [nI b.al,.d (.ivs b.nx.length (aI b.nx)),.d (.ivs b.ac.length (aD b.ac))],.arr (aM l) 1 0]:=by
 intro j
 induction j with
 |zero=>
  intro i m hi hm;obtain _|m:=m;omega;obtain rfl:i=l.length:=om
  simp-implicitDefEqProofs (maxSteps:=9^7) (disch:=try exact Dz) only[↓DN,↓kRet,UP,simprocAttr,Ah,jQ,jL,Tryz.f5]<;>rfl
 |succ j ih=>
  intro i m hi hm;obtain _|m:=m;omega;have hc:(i:Int)<l.length:=om;have hi0:(0:Int)<=i:=om;have hw:=hok _ (d6 (show i<l.length by omega));have kc_a:=@oS L a (l.getD i []) ha hw hL;have kc_b:=@oS L b (l.getD i []) hb (by rw[<-hal];exact hw) hL;have hwr:pZ a b l i= !(accW a (l.getD i [])==accW b (l.getD i [])):=rfl
  by_cases hz:(accW a (l.getD i [])==accW b (l.getD i []))=true
  ·rw[hz]at hwr;rw[gT hwr];have ih':=ih (i+1) m om om;rw[cs1 i]at ih';clear ih hok hw hwr ha hb;generalize accW a (l.getD i [])=x at *;generalize accW b (l.getD i [])=y at *;generalize hwi:l.getD i []=v at *
   simp-implicitDefEqProofs (maxSteps:=9^7) (disch:=try exact Dz) only[↓DN,↓kRet,UP,simprocAttr,SE,hc,hi0,hwi,hz,↓kc_a,↓kc_b,Bh,↓ih',jQ,jL,Tryz.f5]
  ·rw[Bool.not_eq_true]at hz;rw[hz]at hwr;rw[eY hwr];clear ih hok hw hwr ha hb;generalize accW a (l.getD i [])=x at *;generalize accW b (l.getD i [])=y at *;generalize hwi:l.getD i []=v at *
   cases ok with
   |true=>
    simp-implicitDefEqProofs (maxSteps:=9^7) (disch:=try exact Dz) only[↓DN,↓kRet,UP,simprocAttr,SE,hc,hi0,hwi,hz,↓kc_a,↓kc_b,Bh,jQ,jL,Tryz.f5]
   |false=>
    simp-implicitDefEqProofs (maxSteps:=9^7) (disch:=try exact Dz) only[↓DN,↓kRet,UP,simprocAttr,SE,hc,hi0,hwi,hz,↓kc_a,↓kc_b,Bh,jQ,jL,Tryz.f5]
theorem YM{L n:Nat}(hn:32<=n)(c:List UInt8)(hL:2^60<=L):aA env L n 5 [.d (.ivs c.length (bJ c))] []=some (.d (.bool true),[]):=by
 by_cases hsz:(1048576:Int)<c.length
 ·obtain _|n:=n;omega
  simp-implicitDefEqProofs (maxSteps:=9^7) (disch:=try exact Dz) only[↓DN,↓kAsg,↓kRet,UP,simprocAttr,hsz,j2,iQ,Tryz.f5]
 ·obtain⟨a,b,x,b1,b2,x0,x1,kd⟩:=SZ c om;have sa:=b1.short om;have sb:=b2.short om;have ha:a.ac.length<=4294967296:=by have:=b1.a;omega
  have hb:b.ac.length<=4294967296:=by have:=b2.a;omega
  unfold autD at kd;have kc_f:=@Y5 L a b x sa sb ha hb hL;have kc_g:=@YX L a b x sa sb ha hb hL;have kc_t:=@aPV L a b sa sb ha hb hL;have hI:=fun {n:Nat} (hn:15<=n)=>OG (L:=L) hn a x sa ha hL;unfold PX at kc_f kc_g
  cases hG:fU a x with
  |none=>
   rw[hG]at hI kc_f kc_g;have kc_1:=fun {R:Type} {n:Nat} {hq:H} {k:KA R} (hn:15<=n)=>RF (h:=hq) (k:=k) rfl iU (hI hn);simp only at kc_f kc_g;clear hI;obtain _|n:=n;omega
   simp-implicitDefEqProofs (maxSteps:=9^7) (disch:=try exact Dz) only[↓DN,↓kAsg,↓kRet,UP,simprocAttr,hsz,↓kd,↓kc_f,↓kc_g,↓kc_1,j2,iQ,Tryz.f5]
  |some l=>
   rw[hG]at hI kc_f kc_g;have kc_1:=fun {R:Type} {n:Nat} {hq:H} {k:KA R} (hn:15<=n)=>aAl (h:=hq) (k:=k) rfl iU (hI hn);obtain⟨_,_,_,_,hl⟩:=JW hG;simp only at kc_f kc_g;clear hI
   cases hc:vL a b with
   |false=>
    rw[hc]at kc_t kc_f kc_g;simp only[Ak,if_false]at kc_f kc_g;obtain _|n:=n;omega
    simp-implicitDefEqProofs (maxSteps:=9^7) (disch:=try exact Dz) only[↓DN,↓kAsg,↓kRet,UP,simprocAttr,hsz,↓kd,↓kc_f,↓kc_g,↓kc_1,↓kc_t,j2,iQ,Tryz.f5]
   |true=>
    rw[hc]at kc_t kc_f kc_g;simp only[if_true]at kc_f kc_g;obtain⟨va,vb,hal⟩:=W0.1 hc;have loop_a:=fun {R:Type} {n:Nat} {w:Str} {ok:Bool} {k:KE R} (hn:7<=n)=> @S4 R L n hn hL a b l hl va vb hal (fun w hw=>(L6 hG hw).2.1) w ok k l.length 0 L om om;simp only[Ap]at loop_a;unfold aHI at kc_f kc_g;clear va vb hG
    cases hs:seek (pZ a b l) l.length 0 with
    |none=>
     simp only[hs]at loop_a kc_f kc_g;obtain _|n:=n;omega
     simp-implicitDefEqProofs (maxSteps:=9^7) (disch:=try exact Dz) only[↓DN,↓kAsg,↓kRet,UP,simprocAttr,hsz,↓kd,↓kc_f,↓kc_g,↓kc_1,↓kc_t,↓loop_a,j2,iQ,Tryz.f5]
    |some q=>
     simp only[hs]at loop_a kc_f kc_g;obtain _|n:=n;omega
     simp-implicitDefEqProofs (maxSteps:=9^7) (disch:=try exact Dz) only[↓DN,↓kAsg,↓kRet,UP,simprocAttr,hsz,↓kd,↓kc_f,↓kc_g,↓kc_1,↓kc_t,↓loop_a,j2,iQ,Tryz.f5]
end Ev
end Go.Proofs.YthlkcebdfbjdoaaGreat
