/-
  Test suites: what the laws ask of them; calls whose arguments are data and that lay a suite.
-/
import Derived.Test.YthlkcebdfbjdoaaGreatSuiteI
import Derived.Test.YthlkcebdfbjdoaaGreatTrimL
import Derived.Test.YthlkcebdfbjdoaaGreatAutG
import Derived.Test.YthlkcebdfbjdoaaGreatClassS
import Derived.Test.YthlkcebdfbjdoaaGreatSuiteW
import Derived.Test.YthlkcebdfbjdoaaGreatShlx
import Derived.Test.YthlkcebdfbjdoaaGreatSafe
import Derived.Test.YthlkcebdfbjdoaaGreatAnyD
set_option linter.unusedSimpArgs false
set_option linter.unusedVariables false
set_option maxRecDepth 8000
set_option maxHeartbeats 4000000
namespace Go.Proofs.YthlkcebdfbjdoaaGreat
namespace Ev
theorem aD5{a:Aut}{x:Int}{l:List Str}(h:d5 a x=some l)(w:Str):w∈l↔∃c∈cJ a,∃m∈midG (aB a.al) (x.toNat+1),∃e∈sepW a,w=c++m++e:=by
 unfold d5 at h
 split at h
 ·exact aOt h w
 ·cases h
theorem D4{a:Aut}{x:Int}{l:List Str}(h:d5 a x=some l):AOK a/\0<=x/\x<=2/\oL l/\l.length<=3000:=by
 unfold d5 at h
 split at h
 ·rename_i hc
  exact⟨hc.1,hc.2.1,hc.2.2,aQM h⟩
 ·cases h
theorem OA{a:Aut}{x:Int}{l:List Str}(h:d5 a x=some l){w:Str}(hw:w∈l):(w.length:Int)<=2*a.nx.length+x/\dK a.al w=true/\cK w=true:=by
 obtain⟨hv,h0,h2,_,_⟩:=D4 h;obtain⟨_,_,a1,a2,_⟩:=aV hv;obtain⟨c,hc,m,hm,e,he,rfl⟩:=(aD5 h w).1 hw;have:=aEj hv hc hm he;have h3:=this.1;exact⟨by omega,this.ok (iL hv).2.2.2 om⟩
theorem NH{R:Type}{E:Env}{call:aX}{h:H}{f:FuncId}{args:List A}{l:List Str}{b:Bool}{k:KA R}(hs:args.all qX=true)(hm:(E.hint f).mode=3)(hc:call f args []=some (.tup [.sl 0 0 0 l.length,.d (.bool b)],[.arr (aM l) 1 0])):
  aY E call h f args k=k (.tup [.sl h.length 0 0 l.length,.d (.bool b)]) (h++[.arr (aM l) 1 0]):=by
 rw[QV hs hm hc (by simp only[lD,jV,uT,Bu,Cc,aCU,Bw])];simp[mapA,aF,back,mapO]
theorem TJ{R:Type}{E:Env}{call:aX}{h:H}{f:FuncId}{args:List A}{b:Bool}{k:KA R}(hs:args.all qX=true)(hm:(E.hint f).mode=3)(hc:call f args []=some (.tup [.d (.ivs 0 []),.d (.bool b)],[])):
  aY E call h f args k=k (.tup [.d (.ivs 0 []),.d (.bool b)]) h:=by
 rw[QV hs hm hc rfl];simp[mapA,aF]
theorem aMF{al q:Int}{rs:List (List Int)}{w:List UInt8}{i:Nat}(h:i<w.length):stGo al rs (w.drop i) q=stGo al rs (w.drop (i+1)) (goI al rs q (ltr (w.getD i 0))):=by
 rw[b8 h (d:=0)];rfl
theorem aAj{R:Type}{L n:Nat}(hn:1<=n){al:Int}{rs:List (List Int)}{ac:List Bool}{w:List UInt8}(hok:cC al rs ac=true)(hw:dK al w=true){k:KE R}:∀(i q:Int) (m:Nat) (h0:0<=i) (hi:i<=w.length) (hm:(w.length:Int)-i<m) (hq0:0<=q) (hq1:q<rs.length),
  aT env (aA env L n) L 0 [] Bz33 (yQ 0) (U1 (Z1 (U2 (Z2 (Z1 (U8 (U4 (U2 (Z2 (U8 (U4 ([])))))))))))) m (Y1 (.d (.str w)::Y2 (nI 0::.d (.ivs rs.length (ints (pI al rs)))::nI q::Y8 (Y4 (Y2 (nI (w.length)::nI i::Y8 (Y4 ([])))))))) [] k
  =k (.exit 0) (Y1 (.d (.str w)::Y2 (nI 0::.d (.ivs rs.length (ints (pI al rs)))::nI (stGo al rs (w.drop i.toNat) q)::Y8 (Y4 (Y2 (nI (w.length)::nI (w.length)::Y8 (Y4 ([])))))))) []:=by
 intro i q m h0 hi hm hq0 hq1;have htl:=kD al rs;have hlen:=iL hok;obtain⟨hal,hwl,hin⟩:=oA hw;obtain⟨j,hj⟩:∃j:Nat,(j:Int)=(w.length:Int)-i:=⟨((w.length:Int)-i).toNat,by omega⟩
 induction j generalizing i q m with
 |zero=>
  obtain _|m:=m;omega;obtain rfl:i=w.length:=om
  simp-implicitDefEqProofs (maxSteps:=9^7) (disch:=try exact Dz) only[↓DN,↓kRet,UP,simprocAttr,Ah,A4,wD,Tryz.f55];simp only[Bt,stGo,List.foldl_nil]
 |succ j ih=>
  obtain _|m:=m;omega;have hc:i<w.length:=om;have hk:i.toNat<w.length:=om;have hb:w.getD i.toNat 0∈w:=by rw[Aa,Ae hk];exact At hk
  obtain⟨hb1,hb2⟩:=hin _ hb;have hl6:=aB8.1 hb1;have hg:=aB3 hok hq0 hq1 hl6.1 hl6.2;have e1:(i+1).toNat=i.toNat+1:=om;have ih':=ih (i+1) (goI al rs q (ltr (w.getD i.toNat 0))) m om om om hg.1 hg.2 om;have hb3:eH (ltr (w.getD i.toNat 0))=true:=hb1;have hl0:=hl6.1;have hl1:=hl6.2;have hcl:(ltr (w.getD i.toNat 0)).toNat<=(List.drop (q.toNat*6) (ints (pI al rs))).length:=by rw[Cg,eQ,htl];omega
  rw[aMF hk,<-e1];clear ih hg hl6 hb hin hw hok
  simp-implicitDefEqProofs (maxSteps:=9^7) (disch:=try exact Dz) only[↓DN,↓kRet,UP,simprocAttr,↓E4,hc,hb3,ZN,htl,↓ih',A4,wD,Tryz.f55]
theorem NA{L n:Nat}(hn:5<=n)(al:Int)(rs:List (List Int))(ac:List Bool)(w:List UInt8)(hs:aW rs)(ha:ac.length<=4294967296)(hwl:w.length<=4294967295)(hL:2^60<=L):aA env L n 55 [.agg [nI al,.d (.ivs rs.length (aI rs)),.d (.ivs ac.length (aD ac))],.d (.str w)] []=some (nI (AK al rs ac w),[]):=by
 have hl:=hs.1;unfold AK
 cases hv:cC al rs ac with
 |false=>
  obtain _|n:=n;omega
  simp-implicitDefEqProofs (maxSteps:=9^7) (disch:=try exact Dz) only[↓DN,↓kAsg,↓kRet,UP,simprocAttr,↓bD,hv,zR,tL,Tryz.f55]
 |true=>
  cases hw:dK al w with
  |false=>
   obtain _|n:=n;omega
   simp-implicitDefEqProofs (maxSteps:=9^7) (disch:=try exact Dz) only[↓DN,↓kAsg,↓kRet,UP,simprocAttr,↓bD,↓zT,hv,hw,zR,tL,Tryz.f55]
  |true=>
   have hwd:=pD hv;have hlen:=iL hv;have loop_a:=fun {R:Type} {n:Nat} (hn:1<=n) {k:KE R}=>aAj (R:=R) (L:=L) (n:=n) hn (k:=k) hv hw 0 0 L om om om om om;simp only[Cr,Ba]at loop_a;obtain _|n:=n;omega
   simp-implicitDefEqProofs (maxSteps:=9^7) (disch:=try exact Dz) only[↓DN,↓kAsg,↓kRet,UP,simprocAttr,↓bD,↓zT,↓JD,hv,hw,↓loop_a,zR,tL,Tryz.f55]
theorem aEA:type_of% fun {L} al rs ac w hs ha hwl hL=>ks fun hn=> @NA L _ hn al rs ac w hs ha hwl hL:=fun {L} al rs ac w hs ha hwl hL=>ks fun hn=> @NA L _ hn al rs ac w hs ha hwl hL
section
variable{R:Type}{L n:Nat}
theorem aRr:∀(x a:Fin 64),(∀m:Fin 6,cN (x.val:Int) (m.val:Int)=true->cN (a.val:Int) (m.val:Int)=true)->iAnd .i64 (x.val:Int) (a.val:Int)=(x.val:Int):=by decide+kernel
theorem aSO{x a:Int}(hx:cP x=true)(ha:cP a=true)(h:∀m:Int,eH m=true->cN x m=true->cN a m=true):iAnd .i64 x a=x:=by
 unfold cP at hx ha;simp only[decide_eq_true_eq]at hx ha
 have:=aRr ⟨x.toNat,by omega⟩ ⟨a.toNat,by omega⟩ (fun m=>by
  simp only[Bx hx.1,Bx ha.1];exact h m.val (rW.2 (by have:=m.isLt;omega)))
 simpa only[Bx hx.1,Bx ha.1]using this
theorem aQk{al:Int}{w:List UInt8}(h:dK al w=true):cK w=true:=by
 obtain⟨_,h2,h3⟩:=oA h;unfold cK;simp only[Aq,decide_eq_true_eq,Bg];exact⟨h2,fun b hb=>(h3 b hb).1⟩
theorem aOn{al:Int}{w:List UInt8}(h:dK al w=true):cP (xS w)=true/\iAnd .i64 (xS w) al=xS w:=by
 obtain⟨h1,h2,h3⟩:=oA h
 have hl:∀l∈w.map ltr,eH l=true:=by
  intro l hl;obtain⟨b,hb,rfl⟩:=Bf.1 hl;exact(h3 b hb).1
 have hA:cP (xS w)=true:=aLl hl;refine⟨hA,aSO hA h1 fun m hm hb=> ?_⟩;unfold xS at hb;rw[aP8 hl hm,List.any_eq_true]at hb;obtain⟨l,hlm,hd⟩:=hb;simp only[decide_eq_true_eq]at hd;obtain⟨b,hb,rfl⟩:=Bf.1 hlm;rw[hd];exact(h3 b hb).2
def accW(a:Aut)(w:List UInt8):Bool:=a.ac.getD (stGo a.al a.nx w 0).toNat false
theorem aK0{a:Aut}(ha:AOK a):∀(w:List UInt8) (q:Int),(∀b∈w,okB b=true)->0<=q->q<a.nx.length->0<=stGo a.al a.nx w q/\stGo a.al a.nx w q<a.nx.length
 | [],q,_,h0,h1=>⟨h0,h1⟩
 |b::w,q,hw,h0,h1=>by
  have hl:=aB8.1 (hw b Bh);have hg:=aB3 ha h0 h1 hl.1 hl.2;exact aK0 ha w _ (fun x hx=>hw x (Bd _ hx)) hg.1 hg.2
theorem aMR{a:Aut}(ha:AOK a){w:List UInt8}(hw:dK a.al w=true):0<=stGo a.al a.nx w 0/\stGo a.al a.nx w 0<a.ac.length:=by
 obtain⟨_,_,a1,_,a3⟩:=aV ha;obtain⟨_,_,h3⟩:=oA hw;have:=aK0 ha w 0 (fun b hb=>(h3 b hb).1) om om;omega
theorem H4(hn:6<=n)(a:Aut)(w:List UInt8)(ha:AOK a)(hw:dK a.al w=true)(hL:2^60<=L):aA env L n 23 [.agg [nI a.al,.d (.ivs a.nx.length (aI a.nx)),.d (.ivs a.ac.length (aD a.ac))],.d (.str w)] []=some (.d (.bool (accW a w)),[]):=by
 obtain⟨sa,wa,a1,a2,a3⟩:=aV ha;obtain⟨r0,r1⟩:=aMR ha hw;obtain⟨_,hwl,_⟩:=oA hw;have kc_s:=@aEA L a.al a.nx a.ac w sa om om hL
 have e:AK a.al a.nx a.ac w=stGo a.al a.nx w 0:=by
  unfold AK;rw[show cC a.al a.nx a.ac=true from ha,hw];rfl
 rw[e]at kc_s;unfold accW;clear wa ha hw e;generalize stGo a.al a.nx w 0=q at *;obtain _|n:=n;omega
 simp-implicitDefEqProofs (maxSteps:=9^7) (disch:=try exact Dz) only[↓DN,↓kAsg,↓kRet,UP,simprocAttr,LA,r0,r1,↓kc_s,aCx,MZ,Tryz.f23]
theorem oS:type_of% fun {L} a w ha hw hL=>ks fun hn=> @H4 L _ hn a w ha hw hL:=fun {L} a w ha hw hL=>ks fun hn=> @H4 L _ hn a w ha hw hL
theorem aAg(hn:2<=n){s:List UInt8}(hs:s.length<=50000)(ha:s.all okB=true){k:KE R}:∀(i o:Int) (m:Nat) (h0:0<=i) (hi:i<=s.length) (hm:(s.length:Int)-i<m),
  aT env (aA env L n) L 0 [] (U1 (Z1 (U4 (Z16 ([]))))) (yR 0) (Z1 (U1 (Z4 (U16 ([]))))) m (.d (.str s)::Y1 (nI 0::.d (.bool false)::nI o::nI i::Y16 ([]))) [] k
  =k (.exit 0) (.d (.str s)::Y1 (nI 0::.d (.bool false)::nI ((s.drop i.toNat).foldl (fun o b=>iOr .i64 o (bitI (ltr b))) o)::nI (s.length)::Y16 ([]))) []:=by
 intro i o m h0 hi hm;obtain⟨j,hj⟩:∃j:Nat,(j:Int)=(s.length:Int)-i:=⟨((s.length:Int)-i).toNat,by omega⟩
 induction j generalizing i m o with
 |zero=>
  obtain _|m:=m;omega;obtain rfl:i=s.length:=om
  simp-implicitDefEqProofs (maxSteps:=9^7) (disch:=try exact Dz) only[↓DN,↓kRet,UP,simprocAttr,Ah,A7,wP,Tryz.f146];simp only[Bt,List.foldl_nil]
 |succ j ih=>
  obtain _|m:=m;omega;have hc:i<s.length:=om;have hk:i.toNat<s.length:=om;have e1:(i+1).toNat=i.toNat+1:=om;have hb:=aTQ (d:=0) ha hk;have hsl:=rW.1 hb;have hsl0:=hsl.1;have hsl1:ltr (s.getD i.toNat 0)<=9223372036854775807:=om;rw[aQ6 hk (d:=0),<-e1];have ih':=ih (i+1) (iOr .i64 o (bitI (ltr (s.getD i.toNat 0)))) m om om om om;clear ih hsl
  simp-implicitDefEqProofs (maxSteps:=9^7) (disch:=try exact Dz) only[↓DN,↓kRet,UP,simprocAttr,↓DO,↓aNW,hc,↓ih',A7,wP,Tryz.f146]
theorem M3(hn:4<=n)(s:List UInt8)(hw:cK s=true)(hL:2^60<=L):aA env L n 146 [.d (.str s)] []=some (.tup [nI (xS s),.d (.bool true)],[]):=by
 have hw':=hw;unfold cK at hw';simp only[Aq,decide_eq_true_eq]at hw';obtain⟨hw1,hw2⟩:=hw'
 have e:s.foldl (fun o b=>iOr .i64 o (bitI (ltr b))) 0=xS s:=by
  unfold xS aIQ;rw[List.foldl_map]
 have loop_a:=fun {R n k} hn=> @aAg R L n hn s hw1 hw2 k 0 0 L om om om;simp only[Cr,Ba,e]at loop_a;obtain _|n:=n;omega
 simp-implicitDefEqProofs (maxSteps:=9^7) (disch:=try exact Dz) only[↓DN,↓kAsg,↓kRet,UP,simprocAttr,↓s5,hw,↓loop_a,aDh,O9,Tryz.f146]
theorem aEq:type_of% fun {L} s hw hL=>ks fun hn=> @M3 L _ hn s hw hL:=fun {L} s hw hL=>ks fun hn=> @M3 L _ hn s hw hL
theorem LC(hn:5<=n)(s:List UInt8)(al:Int)(hw:dK al s=true)(hL:2^60<=L):aA env L n 124 [.d (.str s),nI al] []=some (.d (.bool true),[]):=by
 have h1:=aQk hw;obtain⟨h2,h3⟩:=aOn hw;have h4:=(oA hw).1;obtain _|n:=n;omega
 simp-implicitDefEqProofs (maxSteps:=9^7) (disch:=try exact Dz) only[↓DN,↓kAsg,↓kRet,UP,simprocAttr,↓aEq,↓gM,h3,h4,aDV,OI,Tryz.f124]
theorem aFc:type_of% fun {L} s al hw hL=>ks fun hn=> @LC L _ hn s al hw hL:=fun {L} s al hw hL=>ks fun hn=> @LC L _ hn s al hw hL
theorem aKa(hn:4<=n)(hL:2^60<=L){a:Aut}{w:List UInt8}(ha:AOK a)(hw:dK a.al w=true){k:KE R}:∀(i q:Int) (m:Nat) (h0:0<=i) (hi:i<=w.length) (hm:(w.length:Int)-i<m) (hq0:0<=q) (hq1:q<a.nx.length),
  aT env (aA env L n) L 0 [] Bz49 (RH 0) (U1 (Z2 (Z1 (U2 (Z2 (U8 (U4 (U1 ([]))))))))) m (Y1 (nI q::.d (.str w)::.ptr 0 0 0::Y2 (nI 0::nI i::Y8 (Y4 (Y1 ([])))))) [.box [nI a.al,.d (.ivs a.nx.length (aI a.nx)),.d (.ivs a.ac.length (aD a.ac))]] k
  =k (.exit 0) (Y1 (nI (stGo a.al a.nx (w.drop i.toNat) q)::.d (.str w)::.ptr 0 0 0::Y2 (nI 0::nI (w.length)::Y8 (Y4 (Y1 ([])))))) [.box [nI a.al,.d (.ivs a.nx.length (aI a.nx)),.d (.ivs a.ac.length (aD a.ac))]]:=by
 intro i q m h0 hi hm hq0 hq1;obtain⟨sa,wa,a1,a2,a3⟩:=aV ha;obtain⟨hal,hwl,hin⟩:=oA hw;obtain⟨j,hj⟩:∃j:Nat,(j:Int)=(w.length:Int)-i:=⟨((w.length:Int)-i).toNat,by omega⟩
 induction j generalizing i q m with
 |zero=>
  obtain _|m:=m;omega;obtain rfl:i=w.length:=om
  simp-implicitDefEqProofs (maxSteps:=9^7) (disch:=try exact Dz) only[↓DN,↓kRet,UP,simprocAttr,Ah,O6,OB,Tryz.f125];simp only[Bt,stGo,List.foldl_nil]
 |succ j ih=>
  obtain _|m:=m;omega;have hc:i<w.length:=om;have hk:i.toNat<w.length:=om;have hb:w.getD i.toNat 0∈w:=by rw[Aa,Ae hk];exact At hk
  have hl6:=aB8.1 (hin _ hb).1;have hg:=aB3 ha hq0 hq1 hl6.1 hl6.2;have e1:(i+1).toNat=i.toNat+1:=om;have ih':=ih (i+1) (goI a.al a.nx q (ltr (w.getD i.toNat 0))) m om om om hg.1 hg.2 om;have kc_g:=@aG3 L a.al q (ltr (w.getD i.toNat 0)) a.nx a.ac.length (aD a.ac) sa (pD ha) hq0 hq1 hl6.1 hl6.2 hL;rw[aMF hk,<-e1];clear ih hg hl6 hb hin
  simp-implicitDefEqProofs (maxSteps:=9^7) (disch:=try exact Dz) only[↓DN,↓kRet,UP,simprocAttr,↓DO,hc,↓kc_g,Bi,↓ih',O6,OB,Tryz.f125]
theorem aDv(hn:5<=n)(a:Aut)(w:List UInt8)(ha:AOK a)(hw:dK a.al w=true)(hL:2^60<=L):aA env L n 125 [.agg [nI a.al,.d (.ivs a.nx.length (aI a.nx)),.d (.ivs a.ac.length (aD a.ac))],nI 0,.d (.str w)] []=some (nI (stGo a.al a.nx w 0),[]):=by
 obtain⟨_,_,a1,_,_⟩:=aV ha;obtain⟨_,hwl,_⟩:=oA hw;have loop_a:=fun {R n k} hn=> @aKa R L n hn hL a w ha hw k 0 0 L om om om om om;simp only[Cr,Ba]at loop_a;obtain _|n:=n;omega
 simp-implicitDefEqProofs (maxSteps:=9^7) (disch:=try exact Dz) only[↓DN,↓kAsg,↓kRet,UP,simprocAttr,↓loop_a,aOm,aGD,Tryz.f125]
theorem aOk:type_of% fun {L} a w ha hw hL=>ks fun hn=> @aDv L _ hn a w ha hw hL:=fun {L} a w ha hw hL=>ks fun hn=> @aDv L _ hn a w ha hw hL
theorem JJ(hn:9<=n)(a:Aut)(w:List UInt8)(ha:AOK a)(hw:dK a.al w=true)(hL:2^60<=L):aA env L n 54 [.agg [nI a.al,.d (.ivs a.nx.length (aI a.nx)),.d (.ivs a.ac.length (aD a.ac))],.d (.str w)] []=some (.d (.bool (accW a w)),[]):=by
 obtain⟨sa,wa,a1,a2,a3⟩:=aV ha;obtain⟨r0,r1⟩:=aMR ha hw;have hrl:=sa.1;have hac:a.ac.length<=4294967296:=om
 have ev:∀ {n:Nat},8<=n->aA env L n 91 [.agg [nI a.al,.d (.ivs a.nx.length (aI a.nx)),.d (.ivs a.ac.length (aD a.ac))],.d (.str w)] []=some (nI (stGo a.al a.nx w 0),[]):=by
  intro n hn;have hve:cC a.al a.nx a.ac=true:=ha;have kc_r:=@aOk L a w ha hw hL;have kc_w:=@aFc L w a.al hw hL;clear r0 r1;obtain _|n:=n;omega
  simp-implicitDefEqProofs (maxSteps:=9^7) (disch:=try exact Dz) only[↓DN,↓kAsg,↓kRet,UP,simprocAttr,↓a7,hve,↓kc_r,↓kc_w,aEr,PI,Tryz.f91]
 have kc_s:=fun {R:Type} {n:Nat} {hq:H} {k:KA R} (hn:8<=n)=>bX (E:=env) (call:=aA env L n) (h:=hq) (k:=k) (f:=91) rfl (ev hn) rfl (.inl rfl);unfold accW;clear wa ha hw ev;generalize stGo a.al a.nx w 0=q at *;obtain _|n:=n;omega
 simp-implicitDefEqProofs (maxSteps:=9^7) (disch:=try exact Dz) only[↓DN,↓kAsg,↓kRet,UP,simprocAttr,LA,r0,r1,↓kc_s,aCv,LQ,Tryz.f54]
theorem KI:type_of% fun {L} a w ha hw hL=>ks fun hn=> @JJ L _ hn a w ha hw hL:=fun {L} a w ha hw hL=>ks fun hn=> @JJ L _ hn a w ha hw hL
end
section
variable{R:Type}{L n:Nat}
def m2(a b:Aut):Bool:=cC a.al a.nx a.ac&&cC b.al b.nx b.ac&&decide (a.al=b.al)
theorem DI{a b:Aut}:m2 a b=true↔AOK a/\AOK b/\a.al=b.al:=by
 unfold m2 AOK;simp only[Aq,decide_eq_true_eq,and_assoc]
def pW(a b:Aut)(l:List Str)(i:Nat):Bool:=!(accW a (l.getD i [])==accW b (l.getD i []))
def aDK(a b:Aut)(l:List Str):Str×Bool:=match seek (pW a b l) l.length 0 with
 |none=>([],false)
 |some q=>(l.getD q [],true)
def fR(a b:Aut)(x:Int):Str×Bool:=match d5 a x with
 |none=>([],false)
 |some l=>if m2 a b=true then aDK a b l else([],false)
theorem HG(hn:6<=n)(a b:Aut)(sa:aW a.nx)(sb:aW b.nx)(ha:a.ac.length<=4294967296)(hb:b.ac.length<=4294967296)(hL:2^60<=L):aA env L n 52 [.agg [nI a.al,.d (.ivs a.nx.length (aI a.nx)),.d (.ivs a.ac.length (aD a.ac))],.agg [nI b.al,.d (.ivs b.nx.length (aI b.nx)),.d (.ivs b.ac.length (aD b.ac))]] []=some (.d (.bool (m2 a b)),[]):=by
 have hra:=sa.1;have hrb:=sb.1;unfold m2
 cases h1:cC a.al a.nx a.ac with
 |false=>
  obtain _|n:=n;omega
  simp-implicitDefEqProofs (maxSteps:=9^7) (disch:=try exact Dz) only[↓DN,↓kAsg,↓kRet,UP,simprocAttr,↓bD,h1,wQ,rI,Tryz.f52]
 |true=>
  cases h2:cC b.al b.nx b.ac with
  |false=>
   obtain _|n:=n;omega
   simp-implicitDefEqProofs (maxSteps:=9^7) (disch:=try exact Dz) only[↓DN,↓kAsg,↓kRet,UP,simprocAttr,↓bD,h1,h2,wQ,rI,Tryz.f52]
  |true=>
   obtain _|n:=n;omega
   simp-implicitDefEqProofs (maxSteps:=9^7) (disch:=try exact Dz) only[↓DN,↓kAsg,↓kRet,UP,simprocAttr,↓bD,h1,h2,wQ,rI,Tryz.f52]
theorem wB:type_of% fun {L} a b sa sb ha hb hL=>ks fun hn=> @HG L _ hn a b sa sb ha hb hL:=fun {L} a b sa sb ha hb hL=>ks fun hn=> @HG L _ hn a b sa sb ha hb hL
theorem UW(hn:7<=n)(hL:2^60<=L){a b:Aut}{l:List Str}(hl:l.length<=3000)(ha:AOK a)(hb:AOK b)(hal:a.al=b.al)(hok:∀w∈l,dK a.al w=true){k:KE R}:∀(j i m:Nat) (hi:i+j=l.length) (hm:j<m),
  aT env (aA env L n) L 0 [] Bz30 (uK 0) (U2 (U1 (Z2 (U1 (Z2 (U16 (U2 (Z2 (Z1 (U8 (U4 ([])))))))))))) m (Y2 (Y1 (.ptr 0 0 0::.ptr 1 0 0::Y1 (.d (.str ([]))::.d (.bool false)::Y16 (Y2 (.sl 2 0 0 l.length::nI (l.length)::nI i::Y8 (Y4 ([])))))))) [.box [nI a.al,.d (.ivs a.nx.length (aI a.nx)),.d (.ivs a.ac.length (aD a.ac))],.box [nI b.al,.d (.ivs b.nx.length (aI b.nx)),.d (.ivs b.ac.length (aD b.ac))],.arr (aM l) 1 0] k
  =match seek (pW a b l) j i with
   |none=>k (.exit 0) (Y2 (Y1 (.ptr 0 0 0::.ptr 1 0 0::Y1 (.d (.str ([]))::.d (.bool false)::Y16 (Y2 (.sl 2 0 0 l.length::nI (l.length)::nI (l.length)::Y8 (Y4 ([])))))))) [.box [nI a.al,.d (.ivs a.nx.length (aI a.nx)),.d (.ivs a.ac.length (aD a.ac))],.box [nI b.al,.d (.ivs b.nx.length (aI b.nx)),.d (.ivs b.ac.length (aD b.ac))],.arr (aM l) 1 0]
   |some q=>k .ret (Y2 (Y1 (.ptr 0 0 0::.ptr 1 0 0::Y1 (.d (.str ((l.getD q [])))::.d (.bool true)::Y16 (Y2 (.sl 2 0 0 l.length::nI (l.length)::nI q::Y8 (Y4 ([])))))))) [.box [nI a.al,.d (.ivs a.nx.length (aI a.nx)),.d (.ivs a.ac.length (aD a.ac))],.box [nI b.al,.d (.ivs b.nx.length (aI b.nx)),.d (.ivs b.ac.length (aD b.ac))],.arr (aM l) 1 0]:=by
 intro j
 induction j with
 |zero=>
  intro i m hi hm;obtain _|m:=m;omega;obtain rfl:i=l.length:=om
  simp-implicitDefEqProofs (maxSteps:=9^7) (disch:=try exact Dz) only[↓DN,↓kRet,UP,simprocAttr,Ah,nA,mB,Tryz.f20]<;>rfl
 |succ j ih=>
  intro i m hi hm;obtain _|m:=m;omega;have hc:(i:Int)<l.length:=om;have hi0:(0:Int)<=i:=om;have hw:=hok _ (d9 (show i<l.length by omega));have kc_a:=@oS L a (l.getD i []) ha hw hL;have kc_b:=@oS L b (l.getD i []) hb (by rw[<-hal];exact hw) hL;have hwr:pW a b l i= !(accW a (l.getD i [])==accW b (l.getD i [])):=rfl
  by_cases hz:(accW a (l.getD i [])==accW b (l.getD i []))=true
  ·rw[hz]at hwr;rw[iB hwr];have ih':=ih (i+1) m om om;rw[cs1 i]at ih';clear ih hok hw hwr ha hb;generalize accW a (l.getD i [])=x at *;generalize accW b (l.getD i [])=y at *;generalize hwi:l.getD i []=w at *
   simp-implicitDefEqProofs (maxSteps:=9^7) (disch:=try exact Dz) only[↓DN,↓kRet,UP,simprocAttr,SE,hc,hi0,hwi,hz,↓kc_a,↓kc_b,Bi,↓ih',nA,mB,Tryz.f20]
  ·rw[Bool.not_eq_true]at hz;rw[hz]at hwr;rw[fD hwr];clear ih hok hw hwr ha hb;generalize accW a (l.getD i [])=x at *;generalize accW b (l.getD i [])=y at *;generalize hwi:l.getD i []=w at *
   simp-implicitDefEqProofs (maxSteps:=9^7) (disch:=try exact Dz) only[↓DN,↓kAsg,↓kRet,UP,simprocAttr,SE,hc,hi0,hwi,hz,↓kc_a,↓kc_b,Bi,nA,mB,Tryz.f20]
theorem FR(hn:16<=n)(a b:Aut)(x:Int)(sa:aW a.nx)(sb:aW b.nx)(ha:a.ac.length<=4294967296)(hb:b.ac.length<=4294967296)(hL:2^60<=L):aA env L n 20 [.agg [nI a.al,.d (.ivs a.nx.length (aI a.nx)),.d (.ivs a.ac.length (aD a.ac))],.agg [nI b.al,.d (.ivs b.nx.length (aI b.nx)),.d (.ivs b.ac.length (aD b.ac))],nI x] []=some (.tup [.d (.str (fR a b x).1),.d (.bool (fR a b x).2)],[]):=by
 have hra:=sa.1;have hrb:=sb.1;have hI:=fun {n:Nat} (hn:15<=n)=>BJ (L:=L) hn a x sa ha hL;unfold fR
 cases hG:d5 a x with
 |none=>
  rw[hG]at hI;have kc_1:=fun {R:Type} {n:Nat} {hq:H} {k:KA R} (hn:15<=n)=>TJ (h:=hq) (k:=k) rfl fU (hI hn);clear hI;obtain _|n:=n;omega
  simp-implicitDefEqProofs (maxSteps:=9^7) (disch:=try exact Dz) only[↓DN,↓kAsg,↓kRet,UP,simprocAttr,↓kc_1,m4,lF,Tryz.f20]
 |some l=>
  rw[hG]at hI;have kc_1:=fun {R:Type} {n:Nat} {hq:H} {k:KA R} (hn:15<=n)=>NH (h:=hq) (k:=k) rfl fU (hI hn);have kc_c:=@wB L a b sa sb ha hb hL;obtain⟨hv,y0,_,_,hl⟩:=D4 hG;clear hI
  cases hcm:m2 a b with
  |false=>
   rw[hcm]at kc_c;simp only[Ak,if_false];obtain _|n:=n;omega
   simp-implicitDefEqProofs (maxSteps:=9^7) (disch:=try exact Dz) only[↓DN,↓kAsg,↓kRet,UP,simprocAttr,↓kc_1,↓kc_c,m4,lF,Tryz.f20]
  |true=>
   rw[hcm]at kc_c;obtain⟨va,vb,hal⟩:=DI.1 hcm;have loop_a:=fun {R n k} hn=> @UW R L n hn hL a b l hl va vb hal (fun w hw=>(OA hG hw).2.1) k l.length 0 L om om;simp only[Ap]at loop_a;simp only[if_true];unfold aDK;clear hv va vb hG
   cases hs:seek (pW a b l) l.length 0 with
   |none=>
    simp only[hs]at loop_a;obtain _|n:=n;omega
    simp-implicitDefEqProofs (maxSteps:=9^7) (disch:=try exact Dz) only[↓DN,↓kAsg,↓kRet,UP,simprocAttr,↓kc_1,↓kc_c,↓loop_a,m4,lF,Tryz.f20]
   |some q=>
    simp only[hs]at loop_a;obtain _|n:=n;omega
    simp-implicitDefEqProofs (maxSteps:=9^7) (disch:=try exact Dz) only[↓DN,↓kAsg,↓kRet,UP,simprocAttr,↓kc_1,↓kc_c,↓loop_a,m4,lF,Tryz.f20]
theorem FW:type_of% fun {L} a b x sa sb ha hb hL=>ks fun hn=> @FR L _ hn a b x sa sb ha hb hL:=fun {L} a b x sa sb ha hb hL=>ks fun hn=> @FR L _ hn a b x sa sb ha hb hL
theorem aE1(hn:6<=n)(a b:Aut)(sa:aW a.nx)(sb:aW b.nx)(ha:a.ac.length<=4294967296)(hb:b.ac.length<=4294967296)(hL:2^60<=L):aA env L n 53 [.agg [nI a.al,.d (.ivs a.nx.length (aI a.nx)),.d (.ivs a.ac.length (aD a.ac))],.agg [nI b.al,.d (.ivs b.nx.length (aI b.nx)),.d (.ivs b.ac.length (aD b.ac))]] []=some (.d (.bool (m2 a b)),[]):=by
 have hra:=sa.1;have hrb:=sb.1;unfold m2
 cases h1:cC a.al a.nx a.ac with
 |false=>
  obtain _|n:=n;omega
  simp-implicitDefEqProofs (maxSteps:=9^7) (disch:=try exact Dz) only[↓DN,↓kAsg,↓kRet,UP,simprocAttr,↓a7,h1,R0,MS,Tryz.f53]
 |true=>
  cases h2:cC b.al b.nx b.ac with
  |false=>
   obtain _|n:=n;omega
   simp-implicitDefEqProofs (maxSteps:=9^7) (disch:=try exact Dz) only[↓DN,↓kAsg,↓kRet,UP,simprocAttr,↓a7,h1,h2,R0,MS,Tryz.f53]
  |true=>
   obtain _|n:=n;omega
   simp-implicitDefEqProofs (maxSteps:=9^7) (disch:=try exact Dz) only[↓DN,↓kAsg,↓kRet,UP,simprocAttr,↓a7,h1,h2,R0,MS,Tryz.f53]
theorem aNk:type_of% fun {L} a b sa sb ha hb hL=>ks fun hn=> @aE1 L _ hn a b sa sb ha hb hL:=fun {L} a b sa sb ha hb hL=>ks fun hn=> @aE1 L _ hn a b sa sb ha hb hL
theorem UQ(hn:9<=n)(hL:2^60<=L){a b:Aut}{l:List Str}(hl:l.length<=3000)(ha:AOK a)(hb:AOK b)(hal:a.al=b.al)(hok:∀w∈l,dK a.al w=true){k:KE R}:∀(j i m:Nat) (hi:i+j=l.length) (hm:j<m),
  aT env (aA env L n) L 0 [] Bz31 (uO 0) (U2 (U1 (Z2 (U1 (Z2 (Z1 (U1 (Z1 (U32 (U4 (U1 ([])))))))))))) m (Y2 (Y1 (.ptr 0 0 0::.ptr 1 0 0::Y1 (.d (.str ([]))::.d (.bool false)::.d (.ivs l.length (aM l))::Y1 (nI i::Y32 (Y4 (Y1 ([])))))))) [.box [nI a.al,.d (.ivs a.nx.length (aI a.nx)),.d (.ivs a.ac.length (aD a.ac))],.box [nI b.al,.d (.ivs b.nx.length (aI b.nx)),.d (.ivs b.ac.length (aD b.ac))]] k
  =match seek (pW a b l) j i with
   |none=>k (.exit 0) (Y2 (Y1 (.ptr 0 0 0::.ptr 1 0 0::Y1 (.d (.str ([]))::.d (.bool false)::.d (.ivs l.length (aM l))::Y1 (nI (l.length)::Y32 (Y4 (Y1 ([])))))))) [.box [nI a.al,.d (.ivs a.nx.length (aI a.nx)),.d (.ivs a.ac.length (aD a.ac))],.box [nI b.al,.d (.ivs b.nx.length (aI b.nx)),.d (.ivs b.ac.length (aD b.ac))]]
   |some q=>k .ret (Y2 (Y1 (.ptr 0 0 0::.ptr 1 0 0::Y1 (.d (.str ((l.getD q [])))::.d (.bool true)::.d (.ivs l.length (aM l))::Y1 (nI q::Y32 (Y4 (Y1 ([])))))))) [.box [nI a.al,.d (.ivs a.nx.length (aI a.nx)),.d (.ivs a.ac.length (aD a.ac))],.box [nI b.al,.d (.ivs b.nx.length (aI b.nx)),.d (.ivs b.ac.length (aD b.ac))]]:=by
 intro j
 induction j with
 |zero=>
  intro i m hi hm;obtain _|m:=m;omega;obtain rfl:i=l.length:=om
  simp-implicitDefEqProofs (maxSteps:=9^7) (disch:=try exact Dz) only[↓DN,↓kRet,UP,simprocAttr,Ah,nT,mE,Tryz.f21]<;>rfl
 |succ j ih=>
  intro i m hi hm;obtain _|m:=m;omega;have hc:(i:Int)<l.length:=om;have hi0:(0:Int)<=i:=om;have hw:=hok _ (d9 (show i<l.length by omega));have kc_a:=@KI L a (l.getD i []) ha hw hL;have kc_b:=@KI L b (l.getD i []) hb (by rw[<-hal];exact hw) hL;have hwr:pW a b l i= !(accW a (l.getD i [])==accW b (l.getD i [])):=rfl
  by_cases hz:(accW a (l.getD i [])==accW b (l.getD i []))=true
  ·rw[hz]at hwr;rw[iB hwr];have ih':=ih (i+1) m om om;rw[cs1 i]at ih';clear ih hok hw hwr ha hb;generalize accW a (l.getD i [])=x at *;generalize accW b (l.getD i [])=y at *;generalize hwi:l.getD i []=w at *
   simp-implicitDefEqProofs (maxSteps:=9^7) (disch:=try exact Dz) only[↓DN,↓kRet,UP,simprocAttr,SE,hc,hi0,hwi,hz,↓kc_a,↓kc_b,Bi,↓ih',nT,mE,Tryz.f21]
  ·rw[Bool.not_eq_true]at hz;rw[hz]at hwr;rw[fD hwr];clear ih hok hw hwr ha hb;generalize accW a (l.getD i [])=x at *;generalize accW b (l.getD i [])=y at *;generalize hwi:l.getD i []=w at *
   simp-implicitDefEqProofs (maxSteps:=9^7) (disch:=try exact Dz) only[↓DN,↓kAsg,↓kRet,UP,simprocAttr,SE,hc,hi0,hwi,hz,↓kc_a,↓kc_b,Bi,nT,mE,Tryz.f21]
theorem F7(hn:16<=n)(a b:Aut)(x:Int)(sa:aW a.nx)(sb:aW b.nx)(ha:a.ac.length<=4294967296)(hb:b.ac.length<=4294967296)(hL:2^60<=L):aA env L n 21 [.agg [nI a.al,.d (.ivs a.nx.length (aI a.nx)),.d (.ivs a.ac.length (aD a.ac))],.agg [nI b.al,.d (.ivs b.nx.length (aI b.nx)),.d (.ivs b.ac.length (aD b.ac))],nI x] []=some (.tup [.d (.str (fR a b x).1),.d (.bool (fR a b x).2)],[]):=by
 have hra:=sa.1;have hrb:=sb.1;have kc_1:=@aF3 L a x sa ha hL;unfold fR
 cases hG:d5 a x with
 |none=>
  rw[hG]at kc_1;simp only[Option.getD_none,Ck,Ac,kH]at kc_1;obtain _|n:=n;omega
  simp-implicitDefEqProofs (maxSteps:=9^7) (disch:=try exact Dz) only[↓DN,↓kAsg,↓kRet,UP,simprocAttr,↓kc_1,mX,kZ,Tryz.f21]
 |some l=>
  rw[hG]at kc_1;simp only[Bb,Cw]at kc_1;have kc_c:=@aNk L a b sa sb ha hb hL;obtain⟨hv,y0,_,_,hl⟩:=D4 hG
  cases hcm:m2 a b with
  |false=>
   rw[hcm]at kc_c;simp only[Ak,if_false];obtain _|n:=n;omega
   simp-implicitDefEqProofs (maxSteps:=9^7) (disch:=try exact Dz) only[↓DN,↓kAsg,↓kRet,UP,simprocAttr,↓kc_1,↓kc_c,mX,kZ,Tryz.f21]
  |true=>
   rw[hcm]at kc_c;obtain⟨va,vb,hal⟩:=DI.1 hcm;have loop_a:=fun {R n k} hn=> @UQ R L n hn hL a b l hl va vb hal (fun w hw=>(OA hG hw).2.1) k l.length 0 L om om;simp only[Ap]at loop_a;simp only[if_true];unfold aDK;clear hv va vb hG
   cases hs:seek (pW a b l) l.length 0 with
   |none=>
    simp only[hs]at loop_a;obtain _|n:=n;omega
    simp-implicitDefEqProofs (maxSteps:=9^7) (disch:=try exact Dz) only[↓DN,↓kAsg,↓kRet,UP,simprocAttr,↓kc_1,↓kc_c,↓loop_a,mX,kZ,Tryz.f21]
   |some q=>
    simp only[hs]at loop_a;obtain _|n:=n;omega
    simp-implicitDefEqProofs (maxSteps:=9^7) (disch:=try exact Dz) only[↓DN,↓kAsg,↓kRet,UP,simprocAttr,↓kc_1,↓kc_c,↓loop_a,mX,kZ,Tryz.f21]
theorem aAl:type_of% fun {L} a b x sa sb ha hb hL=>ks fun hn=> @F7 L _ hn a b x sa sb ha hb hL:=fun {L} a b x sa sb ha hb hL=>ks fun hn=> @F7 L _ hn a b x sa sb ha hb hL
def aIP(a b:Aut)(x:Int):Bool:=(d5 a x).isSome&&m2 a b&& !(fR a b x).2
theorem JI(hn:17<=n)(a b:Aut)(x:Int)(sa:aW a.nx)(sb:aW b.nx)(ha:a.ac.length<=4294967296)(hb:b.ac.length<=4294967296)(hL:2^60<=L):aA env L n 25 [.agg [nI a.al,.d (.ivs a.nx.length (aI a.nx)),.d (.ivs a.ac.length (aD a.ac))],.agg [nI b.al,.d (.ivs b.nx.length (aI b.nx)),.d (.ivs b.ac.length (aD b.ac))],nI x] []=some (.d (.bool (aIP a b x)),[]):=by
 have hra:=sa.1;have hrb:=sb.1;have hI:=fun {n:Nat} (hn:15<=n)=>BJ (L:=L) hn a x sa ha hL;have kc_f:=@FW L a b x sa sb ha hb hL;have kc_c:=@wB L a b sa sb ha hb hL;unfold aIP;generalize fR a b x=f at *;obtain⟨w,ok⟩:=f;simp only at kc_f|-
 cases hG:d5 a x with
 |none=>
  rw[hG]at hI;have kc_1:=fun {R:Type} {n:Nat} {hq:H} {k:KA R} (hn:15<=n)=>TJ (h:=hq) (k:=k) rfl fU (hI hn);clear hI;simp only[Ck,Cq];obtain _|n:=n;omega
  simp-implicitDefEqProofs (maxSteps:=9^7) (disch:=try exact Dz) only[↓DN,↓kAsg,↓kRet,UP,simprocAttr,↓kc_1,↓kc_f,wN,rA,Tryz.f25]
 |some l=>
  rw[hG]at hI;have kc_1:=fun {R:Type} {n:Nat} {hq:H} {k:KA R} (hn:15<=n)=>NH (h:=hq) (k:=k) rfl fU (hI hn);clear hI;simp only[Cw,Bool.true_and]
  cases hcm:m2 a b with
  |false=>
   rw[hcm]at kc_c;simp only[Cq];obtain _|n:=n;omega
   simp-implicitDefEqProofs (maxSteps:=9^7) (disch:=try exact Dz) only[↓DN,↓kAsg,↓kRet,UP,simprocAttr,↓kc_1,↓kc_f,↓kc_c,wN,rA,Tryz.f25]
  |true=>
   rw[hcm]at kc_c;simp only[Bool.true_and];obtain _|n:=n;omega
   simp-implicitDefEqProofs (maxSteps:=9^7) (disch:=try exact Dz) only[↓DN,↓kAsg,↓kRet,UP,simprocAttr,↓kc_1,↓kc_f,↓kc_c,wN,rA,Tryz.f25]
theorem aCl:type_of% fun {L} a b x sa sb ha hb hL=>ks fun hn=> @JI L _ hn a b x sa sb ha hb hL:=fun {L} a b x sa sb ha hb hL=>ks fun hn=> @JI L _ hn a b x sa sb ha hb hL
end
def quoG(a:Aut)(cl:List Int):Nat->Nat->List (List Int)->List Bool->List (List Int)×List Bool
 |0,_,d,b=>(d,b)
 |j+1,q,d,b=>if cl.getD q 0<d.length then quoG a cl j (q+1) d b else quoG a cl j (q+1) (d++[(a.nx.getD q []).map (clA cl)]) (b++[acQ a q])
def quoA(a:Aut):Aut:=⟨a.al,(quoG a (bP a) a.nx.length 0 [] []).1,(quoG a (bP a) a.nx.length 0 [] []).2⟩
structure Quo(a:Aut)(l:List (List Int))(cl:List Int)(q:Nat)(d:List (List Int))(b:List Bool):Prop where
 len:d.length=(aU (l.take q)).length
 blen:b.length=d.length
 low:∀p,p<q->0<=cl.getD p 0/\cl.getD p 0<d.length
 row:∀p,p<q->d.getD (cl.getD p 0).toNat []=(a.nx.getD p []).map (clA cl)
 acc:∀p,p<q->b.getD (cl.getD p 0).toNat false=acQ a p
 mem:∀r∈d,∃p,p<q/\r=(a.nx.getD p []).map (clA cl)
structure QuoOK(a:Aut):Prop where
 ok:AOK (quoA a)
 zero:(bP a).getD 0 0=0
 low:∀q:Nat,q<a.nx.length->0<=(bP a).getD q 0/\(bP a).getD q 0<(quoA a).nx.length
 go:∀q:Nat,q<a.nx.length->∀l∈aB a.al,goS (quoA a) ((bP a).getD q 0) l=clA (bP a) (goS a q l)
 acc:∀q:Nat,q<a.nx.length->acQ (quoA a) ((bP a).getD q 0)=acQ a q
def accI(a:Aut)(w:List Int):Bool:=acQ a (w.foldl (goS a) 0)
section
section
variable{a:Aut}{x y:Int}
end
end
section
variable{R:Type}{L n:Nat}
def Over(al:Int)(w:List Int):Prop:=∀l∈w,l∈aB al
theorem aKm{a:Aut}{w:List Int}(hw:Over a.al w):accW a (txt w)=accI a w:=by
 unfold accW accI acQ;rw[aLd w 0 hw]
theorem MB{a b:Aut}(h:AOK a)(hb:AOK b)(hal:a.al=b.al):∀(w:List Int) (i j u:Int),0<=i->i<a.nx.length->0<=j->j<b.nx.length->
  (Path (nxT a b) (aB a.al) (i*b.nx.length+j) w u↔Over a.al w/\u=w.foldl (goS a) i*b.nx.length+w.foldl (goS b) j)
 | [],i,j,u,_,_,_,_=>by
  simp only[Path,List.foldl_nil]
  constructor
  ·rintro rfl;exact⟨by simp[Over],rfl⟩
  ·rintro⟨_,rfl⟩;rfl
 |l::w,i,j,u,i0,i1,j0,j1=>by
  obtain⟨e1,e2⟩:=yY (n:=(b.nx.length:Int)) om i0 j0 j1;simp only[Path,nxT,e1,e2,Bj,exists_eq_left]
  constructor
  ·rintro⟨hl,hp⟩;have gi:=xJ h i l i0 i1 hl;have gj:=xJ hb j l j0 j1 (hal▸hl);obtain⟨h1,h2⟩:=(MB h hb hal w (goS a i l) (goS b j l) u gi.1 gi.2 gj.1 gj.2).1 hp;exact⟨fun x hx=>(Au.1 hx).elim (fun e=>e▸hl) (h1 x),h2⟩
  ·rintro⟨hw,hu⟩;have hl:=hw l Bh;have gi:=xJ h i l i0 i1 hl;have gj:=xJ hb j l j0 j1 (hal▸hl);exact⟨hl,(MB h hb hal w (goS a i l) (goS b j l) u gi.1 gi.2 gj.1 gj.2).2 ⟨fun x hx=>hw x (Bd _ hx),hu⟩⟩
theorem aFC{a:Aut}(h:AOK a):∀(w:List Int) (q:Int),Over a.al w->0<=q->q<a.nx.length->0<=w.foldl (goS a) q/\w.foldl (goS a) q<a.nx.length
 | [],q,_,h0,h1=>⟨h0,h1⟩
 |l::w,q,hw,h0,h1=>by
  have hg:=xJ h q l h0 h1 (hw l Bh);exact aFC h w _ (fun x hx=>hw x (Bd _ hx)) hg.1 hg.2
def aJf(a b:Aut)(w:List Int):Prop:=Over a.al w/\accI a w≠accI b w
theorem aL9{a b:Aut}(h:AOK a)(hb:AOK b)(hal:a.al=b.al)(w:List Int):
  Hits (nxT a b) (aB a.al) [0*(b.nx.length:Int)+0] (glT (fun x y=>x !=y) a b) w↔aJf a b w:=by
 obtain⟨_,_,a1,_,_⟩:=aV h;obtain⟨_,_,b1,_,_⟩:=aV hb
 have key:Over a.al w->glT (fun x y=>x !=y) a b (w.foldl (goS a) 0*b.nx.length+w.foldl (goS b) 0)=(accI a w !=accI b w):=by
  intro hw;have ri:=aFC h w 0 hw om om;have rj:=aFC hb w 0 (hal▸hw) om om;obtain⟨e1,e2⟩:=yY (n:=(b.nx.length:Int)) om ri.1 rj.1 rj.2;unfold glT;rw[e1,e2];rfl
 unfold Hits qU aJf;simp only[Bj,exists_eq_left]
 constructor
 ·rintro⟨u,hp,hg⟩;obtain⟨h1,rfl⟩:=(MB h hb hal w 0 0 u om om om om).1 hp;rw[key h1]at hg;exact⟨h1,by simpa using hg⟩
 ·rintro⟨h1,h2⟩;exact⟨_,(MB h hb hal w 0 0 _ om om om om).2 ⟨h1,rfl⟩,by rw[key h1];simpa using h2⟩
theorem aNu{a b:Aut}(h:AOK a)(hb:AOK b)(hal:a.al=b.al):CQ (aJf a b) (twoG (fun x y=>x !=y) a b 0 0):=by
 obtain⟨_,_,a1,_,_⟩:=aV h;obtain⟨_,_,b1,_,_⟩:=aV hb;refine RM (aL9 h hb hal) ?_;refine Y7 (kO _) (fun v c h0 h1 hc m hm=> ?_) (fun n hn=> ?_) sm
 ·have:=cD c hc;rw[Cd]at h1|-;exact O1 h hb h0 h1 ⟨this.1,by omega⟩ m hm
 ·simp only[Bj]at hn;subst hn;rw[Cd];exact BO om om
def GD(a b:Aut):Str×Bool:=if m2 a b=true then(txt (twoG (fun x y=>x !=y) a b 0 0).1,(twoG (fun x y=>x !=y) a b 0 0).2)else([],false)
theorem aCs(hn:1<=n)(x y:Bool):aA env L n 57 [.d (.bool x),.d (.bool y)] []=some (.d (.bool (x !=y)),[]):=by
 obtain _|n:=n;omega
 simp-implicitDefEqProofs (maxSteps:=9^7) (disch:=try exact Dz) only[↓DN,↓kAsg,↓kRet,UP,simprocAttr,aBN,M2,Tryz.f57]
 all_goals (cases x<;>cases y<;>rfl)
theorem aBH{hq:H}{k:KA R}(hn:1<=n)(x y:Bool):aY env (aA env L n) hq 57 [.d (.bool x),.d (.bool y)] k=k (.d (.bool (x !=y))) hq:=
 bX rfl (aCs hn x y) rfl (.inl rfl)
theorem S8(hn:9<=n)(a b:Aut)(sa:aW a.nx)(sb:aW b.nx)(ha:a.ac.length<=4294967296)(hb:b.ac.length<=4294967296)(hL:2^60<=L):aA env L n 24 [.agg [nI a.al,.d (.ivs a.nx.length (aI a.nx)),.d (.ivs a.ac.length (aD a.ac))],.agg [nI b.al,.d (.ivs b.nx.length (aI b.nx)),.d (.ivs b.ac.length (aD b.ac))]] []=some (.tup [.d (.str (GD a b).1),.d (.bool (GD a b).2)],[]):=by
 have kc_c:=@wB L a b sa sb ha hb hL;have hra:=sa.1;have hrb:=sb.1;unfold GD
 cases hcm:m2 a b with
 |false=>
  rw[hcm]at kc_c;simp only[Ak,if_false];obtain _|n:=n;omega
  simp-implicitDefEqProofs (maxSteps:=9^7) (disch:=try exact Dz) only[↓DN,↓kAsg,↓kRet,UP,simprocAttr,↓kc_c,SU,J3,Tryz.f24]
 |true=>
  rw[hcm]at kc_c;obtain⟨va,vb,hal⟩:=DI.1 hcm;obtain⟨_,_,a1,a2,a3⟩:=aV va;obtain⟨_,_,b1,b2,b3⟩:=aV vb;have kl_b:=fun {R:Type} {n:Nat} {k:A->Option R} (hn:8<=n)=>jX (call:=aA env L n) (k:=k) (f:=56) (@IP L n hn hL a b (fun x y=>x !=y) 57 sI (fun x y {R n hq k} hn=>aBH hn x y) va vb 0 0 ⟨by omega,by omega⟩ ⟨by omega,by omega⟩) rfl;have kv_l:=fun {R:Type} {n:Nat} {hq:H} {args:List A} {k:KA R}=>dD (E:=env) (call:=aA env L n) (h:=hq) (k:=k) (args:=args) lY;simp only[if_true];generalize twoG (fun x y=>x !=y) a b 0 0=r at *;obtain _|n:=n;omega
  simp-implicitDefEqProofs (maxSteps:=9^7) (disch:=try exact Dz) only[↓DN,↓kAsg,↓kRet,UP,simprocAttr,↓kc_c,↓kv_l,↓kl_b,SU,J3,Tryz.f24]
theorem aID:type_of% fun {L} a b sa sb ha hb hL=>ks fun hn=> @S8 L _ hn a b sa sb ha hb hL:=fun {L} a b sa sb ha hb hL=>ks fun hn=> @S8 L _ hn a b sa sb ha hb hL
end
theorem aNL{a:Aut}{x:Int}{l:List Str}(h:d5 a x=some l){w:Str}(hw:w∈l):∃u,w=txt u/\Over a.al u:=by
 obtain⟨c,hc,m,hm,e,he,rfl⟩:=(aD5 h w).1 hw;obtain⟨u,e1,e2,_⟩:=(aEj (D4 h).1 hc hm he).txt;exact⟨u,e1,e2⟩
structure FailOK(a b:Aut)(x:Int)(l:List Str)(w:Str):Prop where
 s:d5 a x=some l
 c:m2 a b=true
 m:w∈l
 d:accW a w≠accW b w
theorem aQ1{a b:Aut}{x:Int}(h:(fR a b x).2=true):∃l,FailOK a b x l (fR a b x).1:=by
 unfold fR at h|-
 cases hs:d5 a x with
 |none=>rw[hs]at h;cases h
 |some l=>
  rw[hs]at h;simp only at h|-
  by_cases hc:m2 a b=true
  ·rw[if_pos hc]at h|-;unfold aDK at h|-
   cases hk:seek (pW a b l) l.length 0 with
   |none=>rw[hk]at h;cases h
   |some q=>
    obtain⟨_,q1,q2,_⟩:=xP hk;refine⟨l,hs,hc,d9 om,?_⟩;unfold pW at q2
    simpa using q2
  ·rw[if_neg hc]at h;cases h
theorem aSz{a b:Aut}{x:Int}(h:(fR a b x).2=false):(fR a b x).1=[]:=by
 unfold fR at h|-
 cases hs:d5 a x with
 |none=>rfl
 |some l=>
  rw[hs]at h;simp only at h|-
  by_cases hc:m2 a b=true
  ·rw[if_pos hc]at h|-;unfold aDK at h|-
   cases hk:seek (pW a b l) l.length 0 with
   |none=>rfl
   |some q=>rw[hk]at h;cases h
  ·rw[if_neg hc]
theorem aLi{a b:Aut}{x:Int}{l:List Str}{w:Str}(h:FailOK a b x l w):(GD a b).2=true/\¬cmpX w (GD a b).1<0/\(GD a b).1.length<=w.length:=by
 obtain⟨ha,hb,hal⟩:=DI.1 h.c;obtain⟨u,rfl,hu⟩:=aNL h.s h.m;have hd:=h.d;rw[aKm hu,aKm (hal▸hu)]at hd;unfold GD;rw[if_pos h.c]
 rcases aNu ha hb hal with⟨h1,hv,hmin⟩|⟨_,h2⟩
 ·have hn:=hmin u ⟨hu,hd⟩;have r:=fun {al:Int} {w:List Int} (h:Over al w) (l:Int) (hl:l∈w)=>(show 0<=l/\l<6 by have:=cD l (h l hl);omega)
  refine⟨h1,?_,?_⟩
  ·intro hlt
   rcases aGc u (twoG (fun x y=>x !=y) a b 0 0).1 with e|e|e
   ·rw[<-e]at hlt;exact BB _ hlt
   ·exact hn e
   ·exact YQ hlt (aMp (r hv.1) (r hu) e)
  ·unfold txt;simp only[As];apply Dy;intro hc;exact hn (.inl om)
 ·exact absurd ⟨hu,hd⟩ (h2 u)
theorem K6{L n:Nat}(hn:6<=n)(v w:List UInt8)(hv:v.length<=4294967295)(hw:w.length<=4294967295)(hL:2^60<=L):aA env L n 13 [.d (.str v),.d (.str w)] []=some (.d (.bool (cK v&&cK w&&decide (cmpX v w<0))),[]):=by
 cases h1:cK v with
 |false=>
  obtain _|n:=n;omega
  simp-implicitDefEqProofs (maxSteps:=9^7) (disch:=try exact Dz) only[↓DN,↓kAsg,↓kRet,UP,simprocAttr,↓CD,h1,yK,s8,Tryz.f13]
 |true=>
  cases h2:cK w with
  |false=>
   obtain _|n:=n;omega
   simp-implicitDefEqProofs (maxSteps:=9^7) (disch:=try exact Dz) only[↓DN,↓kAsg,↓kRet,UP,simprocAttr,↓CD,h1,h2,yK,s8,Tryz.f13]
  |true=>
   obtain _|n:=n;omega
   simp-implicitDefEqProofs (maxSteps:=9^7) (disch:=try exact Dz) only[↓DN,↓kAsg,↓kRet,UP,simprocAttr,↓CD,↓aH4,h1,h2,yK,s8,Tryz.f13]
theorem aEp:type_of% fun {L} v w hv hw hL=>ks fun hn=> @K6 L _ hn v w hv hw hL:=fun {L} v w hv hw hL=>ks fun hn=> @K6 L _ hn v w hv hw hL
theorem ZX{L n:Nat}(hn:32<=n)(c:List UInt8)(hL:2^60<=L):aA env L n 6 [.d (.ivs c.length (bJ c))] []=some (.d (.bool true),[]):=by
 by_cases hsz:(1048576:Int)<c.length
 ·obtain _|n:=n;omega
  simp-implicitDefEqProofs (maxSteps:=9^7) (disch:=try exact Dz) only[↓DN,↓kAsg,↓kRet,UP,simprocAttr,hsz,uL,oM,Tryz.f6]
 ·obtain⟨a,b,x,b1,b2,x0,x1,kd⟩:=UO c om;have sa:=b1.short om;have sb:=b2.short om;have ha:a.ac.length<=4294967296:=by have:=b1.a;omega
  have hb:b.ac.length<=4294967296:=by have:=b2.a;omega
  unfold autD at kd;have kc_f:=@FW L a b x sa sb ha hb hL;have kc_g:=@aAl L a b x sa sb ha hb hL
  cases hf:(fR a b x).2 with
  |false=>
   rw[hf,aSz hf]at kc_f kc_g;obtain _|n:=n;omega
   simp-implicitDefEqProofs (maxSteps:=9^7) (disch:=try exact Dz) only[↓DN,↓kAsg,↓kRet,UP,simprocAttr,hsz,↓kd,↓kc_f,↓kc_g,uL,oM,Tryz.f6]
  |true=>
   obtain⟨l,hF⟩:=aQ1 hf;have kc_p:=@aCl L a b x sa sb ha hb hL;have kc_d:=@aID L a b sa sb ha hb hL;obtain⟨d1,d2,d3⟩:=aLi hF;obtain⟨va,vb,hal⟩:=DI.1 hF.c;obtain⟨hv,y0,_,hso,hl⟩:=D4 hF.s;have hI:=fun {n:Nat} (hn:15<=n)=>BJ (L:=L) hn a x sa ha hL;rw[hF.s]at hI;have kc_1:=fun {R:Type} {n:Nat} {hq:H} {k:KA R} (hn:15<=n)=>NH (h:=hq) (k:=k) rfl fU (hI hn);obtain⟨_,w2,w3⟩:=OA hF.s hF.m
   have hwl:(fR a b x).1.length<=50000:=by
    unfold cK at w3;simp only[Aq,decide_eq_true_eq]at w3;omega
   have kc_a:=@oS L a (fR a b x).1 va w2 hL;have kc_b:=@oS L b (fR a b x).1 vb (hal▸w2) hL;have kc_w:=@aEp L (fR a b x).1 (GD a b).1 om om hL;have kl_h:=@aJ0 L l (fR a b x).1 om hL;rw[decide_eq_true hF.m]at kl_h;rw[decide_eq_false d2,De]at kc_w;rw[d1]at kc_d;have hne:(accW a (fR a b x).1==accW b (fR a b x).1)=false:=by simpa using hF.d
   have hp:aIP a b x=false:=by unfold aIP;rw[hf];simp
   rw[hp]at kc_p;rw[hf]at kc_f kc_g;clear hI hF hso w2 w3 va vb d2 hv hf hp;generalize accW a (fR a b x).1=va at *;generalize accW b (fR a b x).1=vb at *;generalize(fR a b x).1=w at *;generalize(GD a b).1=v at *;obtain _|n:=n;omega
   simp-implicitDefEqProofs (maxSteps:=9^7) (disch:=try exact Dz) only[↓DN,↓kAsg,↓kRet,UP,simprocAttr,↓aFW,SE,hsz,↓kd,↓kc_f,↓kc_g,↓kc_1,↓kc_d,↓kc_a,↓kc_b,↓kc_w,↓kc_p,↓kl_h,hne,uL,oM,Tryz.f6]
end Ev
end Go.Proofs.YthlkcebdfbjdoaaGreat
