/-
  Test suites: what the laws ask of them; calls whose arguments are data and that lay a suite.
-/
import Derived.Test.YtppffbehejpglaaGreatSuiteI
import Derived.Test.YtppffbehejpglaaGreatTrimL
import Derived.Test.YtppffbehejpglaaGreatAutG
import Derived.Test.YtppffbehejpglaaGreatClassS
import Derived.Test.YtppffbehejpglaaGreatSuiteW
import Derived.Test.YtppffbehejpglaaGreatAnyD
set_option linter.unusedSimpArgs false
set_option linter.unusedVariables false
set_option linter.unusedSectionVars false
set_option maxRecDepth 8000
set_option maxHeartbeats 4000000
namespace Go.Proofs.YtppffbehejpglaaGreat
namespace Ev
theorem aDw{a:Aut}{x:Int}{l:List Str}(h:eM a x=some l)(w:Str):w∈l↔∃c∈cH a,∃m∈midG (aB a.al) (x.toNat+1),∃e∈sepW a,w=c++m++e:=by
 unfold eM at h
 split at h
 ·exact aN2 h w
 ·cases h
theorem xG{a:Aut}{x:Int}{l:List Str}(h:eM a x=some l):AOK a/\0<=x/\x<=2/\oI l/\l.length<=3000:=by
 unfold eM at h
 split at h
 ·rename_i hc
  exact⟨hc.1,hc.2.1,hc.2.2,aQY h⟩
 ·cases h
theorem aMi{ls:List Int}:∀k,[]∈midG ls k
 |0=>by simp[midG]
 |k+1=>Am.2 (.inl (aMi k))
theorem aR0{a:Aut}(h:AOK a):[]∈cH a:=by
 have:=aQJ h;rw[<-this.first];exact d7 this.pos
theorem WE{a:Aut}{i:Int}:∀(q j:Nat) (o:List Str) (w:Str),w∈o->w∈sepJ a i q j o
 |0,_,_,_,h=>h
 |q+1,j,o,w,h=>by
  unfold sepJ
  split
  ·exact WE q (j+1) _ w (Am.2 (.inl h))
  ·exact WE q (j+1) o w h
theorem aGI{a:Aut}:∀(q i:Nat) (o:List Str) (w:Str),w∈o->w∈sepA a q i o
 |0,_,_,_,h=>h
 |q+1,i,o,w,h=>by unfold sepA;exact aGI q (i+1) _ w (WE _ _ o w h)
theorem aSi(a:Aut):[]∈sepW a:=aGI _ _ _ _ (Bp.2 rfl)
theorem aI0{a:Aut}{x:Int}{l:List Str}(h:eM a x=some l):0<l.length/\l.getD 0 []=[]:=by
 obtain⟨hv,_,_,hs,_⟩:=xG h;have hm:[]∈l:=(aDw h []).2 ⟨[],aR0 hv,[],aMi _,[],aSi a,rfl⟩;obtain⟨i,hi,e⟩:=Cb hm;refine⟨by omega,?_⟩
 rcases Cr i with rfl|h0
 ·rw[Aa,Ad hi,e];rfl
 ·have:=List.pairwise_iff_getElem.1 hs 0 i om hi h0;rw[e]at this
  rcases BD.1 this with h|⟨_,h⟩
  ·simp at h
  ·simp[Op.bytesLess]at h
theorem aAt{a:Aut}{x:Int}{l:List Str}(h:eM a x=some l){w:Str}(hw:w∈l):(w.length:Int)<=2*a.nx.length+x/\dU a.al w=true/\dQ w=true:=by
 obtain⟨hv,h0,h2,_,_⟩:=xG h;obtain⟨_,_,a1,a2,_⟩:=aV hv;obtain⟨c,hc,m,hm,e,he,rfl⟩:=(aDw h w).1 hw;have:=aKi hv hc hm he;have h3:=this.1;exact⟨by omega,this.ok (fW hv).2.2.2 om⟩
theorem Z9{R:Type}{E:Env}{call:aX}{h:H}{f:FuncId}{args:List A}{l:List Str}{b:Bool}{k:KA R}(hs:args.all pD=true)(hm:(E.hint f).mode=3)(hc:call f args []=some (.tup [.sl 0 0 0 l.length,.d (.bool b)],[.arr (aM l) 1 0])):
  aW E call h f args k=k (.tup [.sl h.length 0 0 l.length,.d (.bool b)]) (h++[.arr (aM l) 1 0]):=by
 rw[RQ hs hm hc (by simp only[lC,jR,u6,Bu,Bz,aEI,Bt])];simp[mapA,aF,back,mapO]
theorem SI{R:Type}{E:Env}{call:aX}{h:H}{f:FuncId}{args:List A}{b:Bool}{k:KA R}(hs:args.all pD=true)(hm:(E.hint f).mode=3)(hc:call f args []=some (.tup [.d (.ivs 0 []),.d (.bool b)],[])):
  aW E call h f args k=k (.tup [.d (.ivs 0 []),.d (.bool b)]) h:=by
 rw[RQ hs hm hc rfl];simp[mapA,aF]
theorem aMa{al q:Int}{rs:List (List Int)}{w:List UInt8}{i:Nat}(h:i<w.length):stGo al rs (w.drop i) q=stGo al rs (w.drop (i+1)) (goI al rs q (ltr (w.getD i 0))):=by
 rw[cB h (d:=0)];rfl
theorem ZS{R:Type}{L n:Nat}(hn:1<=n){al:Int}{rs:List (List Int)}{ac:List Bool}{w:List UInt8}(hok:bX al rs ac=true)(hw:dU al w=true){k:KE R}:∀(i q:Int) (m:Nat) (h0:0<=i) (hi:i<=w.length) (hm:(w.length:Int)-i<m) (hq0:0<=q) (hq1:q<rs.length),
  aR env (aA env L n) L 0 [] Bz32 (zV 0) (U1 (Z1 (U2 (Z2 (Z1 (U8 (U4 (U2 (Z2 (U8 (U4 ([])))))))))))) m (Y1 (.d (.str w)::Y2 (nI 0::.d (.ivs rs.length (ints (pY al rs)))::nI q::Y8 (Y4 (Y2 (nI (w.length)::nI i::Y8 (Y4 ([])))))))) [] k
  =k (.exit 0) (Y1 (.d (.str w)::Y2 (nI 0::.d (.ivs rs.length (ints (pY al rs)))::nI (stGo al rs (w.drop i.toNat) q)::Y8 (Y4 (Y2 (nI (w.length)::nI (w.length)::Y8 (Y4 ([])))))))) []:=by
 intro i q m h0 hi hm hq0 hq1;have htl:=kG al rs;have hlen:=fW hok;obtain⟨hal,hwl,hin⟩:=oH hw;obtain⟨j,hj⟩:∃j:Nat,(j:Int)=(w.length:Int)-i:=⟨((w.length:Int)-i).toNat,by omega⟩
 induction j generalizing i q m with
 |zero=>
  obtain _|m:=m;omega;obtain rfl:i=w.length:=om
  simp-implicitDefEqProofs (maxSteps:=9^7) (disch:=try exact Dz) only[↓DN,↓kRet,UP,simprocAttr,Ah,AV,wF,Tryz.f40];simp only[Bw,stGo,List.foldl_nil]
 |succ j ih=>
  obtain _|m:=m;omega;have hc:i<w.length:=om;have hk:i.toNat<w.length:=om;have hb:w.getD i.toNat 0∈w:=by rw[Aa,Ad hk];exact At hk
  obtain⟨hb1,hb2⟩:=hin _ hb;have hl6:=aBX.1 hb1;have hg:=aBs hok hq0 hq1 hl6.1 hl6.2;have e1:(i+1).toNat=i.toNat+1:=om;have ih':=ih (i+1) (goI al rs q (ltr (w.getD i.toNat 0))) m om om om hg.1 hg.2 om;have hb3:eV (ltr (w.getD i.toNat 0))=true:=hb1;have hl0:=hl6.1;have hl1:=hl6.2;have hcl:(ltr (w.getD i.toNat 0)).toNat<=(List.drop (q.toNat*6) (ints (pY al rs))).length:=by rw[Cf,d8,htl];omega
  rw[aMa hk,<-e1];clear ih hg hl6 hb hin hw hok
  simp-implicitDefEqProofs (maxSteps:=9^7) (disch:=try exact Dz) only[↓DN,↓kRet,UP,simprocAttr,↓D9,hc,hb3,YV,htl,↓ih',AV,wF,Tryz.f40]
theorem LM{L n:Nat}(hn:5<=n)(al:Int)(rs:List (List Int))(ac:List Bool)(w:List UInt8)(hs:aY rs)(ha:ac.length<=4294967296)(hwl:w.length<=4294967295)(hL:2^60<=L):aA env L n 40 [.agg [nI al,.d (.ivs rs.length (aG rs)),.d (.ivs ac.length (aD ac))],.d (.str w)] []=some (nI (pK al rs ac w),[]):=by
 have hl:=hs.1;unfold pK
 cases hv:bX al rs ac with
 |false=>
  obtain _|n:=n;omega
  simp-implicitDefEqProofs (maxSteps:=9^7) (disch:=try exact Dz) only[↓DN,↓kAsg,↓kRet,UP,simprocAttr,↓bA,hv,yE,tB,Tryz.f40]
 |true=>
  cases hw:dU al w with
  |false=>
   obtain _|n:=n;omega
   simp-implicitDefEqProofs (maxSteps:=9^7) (disch:=try exact Dz) only[↓DN,↓kAsg,↓kRet,UP,simprocAttr,↓bA,↓LS,hv,hw,yE,tB,Tryz.f40]
  |true=>
   have hwd:=pI hv;have hlen:=fW hv;have loop_a:=fun {R:Type} {n:Nat} (hn:1<=n) {k:KE R}=>ZS (R:=R) (L:=L) (n:=n) hn (k:=k) hv hw 0 0 L om om om om om;simp only[Cy,Ba]at loop_a;obtain _|n:=n;omega
   simp-implicitDefEqProofs (maxSteps:=9^7) (disch:=try exact Dz) only[↓DN,↓kAsg,↓kRet,UP,simprocAttr,↓bA,↓LS,↓JO,hv,hw,↓loop_a,yE,tB,Tryz.f40]
theorem aCX:type_of% fun {L} al rs ac w hs ha hwl hL=>ks fun hn=> @LM L _ hn al rs ac w hs ha hwl hL:=fun {L} al rs ac w hs ha hwl hL=>ks fun hn=> @LM L _ hn al rs ac w hs ha hwl hL
section
variable{R:Type}{L n:Nat}
theorem aQ5:∀(x a:Fin 64),(∀m:Fin 6,cO (x.val:Int) (m.val:Int)=true->cO (a.val:Int) (m.val:Int)=true)->iAnd .i64 (x.val:Int) (a.val:Int)=(x.val:Int):=by decide+kernel
theorem aSG{x a:Int}(hx:cQ x=true)(ha:cQ a=true)(h:∀m:Int,eV m=true->cO x m=true->cO a m=true):iAnd .i64 x a=x:=by
 unfold cQ at hx ha;simp only[decide_eq_true_eq]at hx ha
 have:=aQ5 ⟨x.toNat,by omega⟩ ⟨a.toNat,by omega⟩ (fun m=>by
  simp only[Bx hx.1,Bx ha.1];exact h m.val (xP.2 (by have:=m.isLt;omega)))
 simpa only[Bx hx.1,Bx ha.1]using this
theorem aOJ{al:Int}{w:List UInt8}(h:dU al w=true):dQ w=true:=by
 obtain⟨_,h2,h3⟩:=oH h;unfold dQ;simp only[As,decide_eq_true_eq,Bg];exact⟨h2,fun b hb=>(h3 b hb).1⟩
theorem aMT{al:Int}{w:List UInt8}(h:dU al w=true):cQ (xL w)=true/\iAnd .i64 (xL w) al=xL w:=by
 obtain⟨h1,h2,h3⟩:=oH h
 have hl:∀l∈w.map ltr,eV l=true:=by
  intro l hl;obtain⟨b,hb,rfl⟩:=Bf.1 hl;exact(h3 b hb).1
 have hA:cQ (xL w)=true:=aLe hl;refine⟨hA,aSG hA h1 fun m hm hb=> ?_⟩;unfold xL at hb;rw[aOn hl hm,List.any_eq_true]at hb;obtain⟨l,hlm,hd⟩:=hb;simp only[decide_eq_true_eq]at hd;obtain⟨b,hb,rfl⟩:=Bf.1 hlm;rw[hd];exact(h3 b hb).2
def accW(a:Aut)(w:List UInt8):Bool:=a.ac.getD (stGo a.al a.nx w 0).toNat false
theorem aJk{a:Aut}(ha:AOK a):∀(w:List UInt8) (q:Int),(∀b∈w,okB b=true)->0<=q->q<a.nx.length->0<=stGo a.al a.nx w q/\stGo a.al a.nx w q<a.nx.length
 | [],q,_,h0,h1=>⟨h0,h1⟩
 |b::w,q,hw,h0,h1=>by
  have hl:=aBX.1 (hw b Bi);have hg:=aBs ha h0 h1 hl.1 hl.2;exact aJk ha w _ (fun x hx=>hw x (Be _ hx)) hg.1 hg.2
theorem aMk{a:Aut}(ha:AOK a){w:List UInt8}(hw:dU a.al w=true):0<=stGo a.al a.nx w 0/\stGo a.al a.nx w 0<a.ac.length:=by
 obtain⟨_,_,a1,_,a3⟩:=aV ha;obtain⟨_,_,h3⟩:=oH hw;have:=aJk ha w 0 (fun b hb=>(h3 b hb).1) om om;omega
theorem IU(hn:6<=n)(a:Aut)(w:List UInt8)(ha:AOK a)(hw:dU a.al w=true)(hL:2^60<=L):aA env L n 17 [.agg [nI a.al,.d (.ivs a.nx.length (aG a.nx)),.d (.ivs a.ac.length (aD a.ac))],.d (.str w)] []=some (.d (.bool (accW a w)),[]):=by
 obtain⟨sa,wa,a1,a2,a3⟩:=aV ha;obtain⟨r0,r1⟩:=aMk ha hw;obtain⟨_,hwl,_⟩:=oH hw;have kc_s:=@aCX L a.al a.nx a.ac w sa om om hL
 have e:pK a.al a.nx a.ac w=stGo a.al a.nx w 0:=by
  unfold pK;rw[show bX a.al a.nx a.ac=true from ha,hw];rfl
 rw[e]at kc_s;unfold accW;clear wa ha hw e;generalize stGo a.al a.nx w 0=q at *;obtain _|n:=n;omega
 simp-implicitDefEqProofs (maxSteps:=9^7) (disch:=try exact Dz) only[↓DN,↓kAsg,↓kRet,UP,simprocAttr,LA,r0,r1,↓kc_s,aBR,LE,Tryz.f17]
theorem G9:type_of% fun {L} a w ha hw hL=>ks fun hn=> @IU L _ hn a w ha hw hL:=fun {L} a w ha hw hL=>ks fun hn=> @IU L _ hn a w ha hw hL
theorem ZT(hn:2<=n){s:List UInt8}(hs:s.length<=50000)(ha:s.all okB=true){k:KE R}:∀(i o:Int) (m:Nat) (h0:0<=i) (hi:i<=s.length) (hm:(s.length:Int)-i<m),
  aR env (aA env L n) L 0 [] (U1 (Z1 (U4 (Z16 ([]))))) (yI 0) (Z1 (U1 (Z4 (U16 ([]))))) m (.d (.str s)::Y1 (nI 0::.d (.bool false)::nI o::nI i::Y16 ([]))) [] k
  =k (.exit 0) (.d (.str s)::Y1 (nI 0::.d (.bool false)::nI ((s.drop i.toNat).foldl (fun o b=>iOr .i64 o (bitI (ltr b))) o)::nI (s.length)::Y16 ([]))) []:=by
 intro i o m h0 hi hm;obtain⟨j,hj⟩:∃j:Nat,(j:Int)=(s.length:Int)-i:=⟨((s.length:Int)-i).toNat,by omega⟩
 induction j generalizing i m o with
 |zero=>
  obtain _|m:=m;omega;obtain rfl:i=s.length:=om
  simp-implicitDefEqProofs (maxSteps:=9^7) (disch:=try exact Dz) only[↓DN,↓kRet,UP,simprocAttr,Ah,AP,wM,Tryz.f101];simp only[Bw,List.foldl_nil]
 |succ j ih=>
  obtain _|m:=m;omega;have hc:i<s.length:=om;have hk:i.toNat<s.length:=om;have e1:(i+1).toNat=i.toNat+1:=om;have hb:=aTg (d:=0) ha hk;have hsl:=xP.1 hb;have hsl0:=hsl.1;have hsl1:ltr (s.getD i.toNat 0)<=9223372036854775807:=om;rw[aQV hk (d:=0),<-e1];have ih':=ih (i+1) (iOr .i64 o (bitI (ltr (s.getD i.toNat 0)))) m om om om om;clear ih hsl
  simp-implicitDefEqProofs (maxSteps:=9^7) (disch:=try exact Dz) only[↓DN,↓kRet,UP,simprocAttr,↓DV,↓aMV,hc,↓ih',AP,wM,Tryz.f101]
theorem LP(hn:4<=n)(s:List UInt8)(hw:dQ s=true)(hL:2^60<=L):aA env L n 101 [.d (.str s)] []=some (.tup [nI (xL s),.d (.bool true)],[]):=by
 have hw':=hw;unfold dQ at hw';simp only[As,decide_eq_true_eq]at hw';obtain⟨hw1,hw2⟩:=hw'
 have e:s.foldl (fun o b=>iOr .i64 o (bitI (ltr b))) 0=xL s:=by
  unfold xL aIg;rw[List.foldl_map]
 have loop_a:=fun {R n k} hn=> @ZT R L n hn s hw1 hw2 k 0 0 L om om om;simp only[Cy,Ba,e]at loop_a;obtain _|n:=n;omega
 simp-implicitDefEqProofs (maxSteps:=9^7) (disch:=try exact Dz) only[↓DN,↓kAsg,↓kRet,UP,simprocAttr,↓tR,hw,↓loop_a,aCW,O6,Tryz.f101]
theorem aCM:type_of% fun {L} s hw hL=>ks fun hn=> @LP L _ hn s hw hL:=fun {L} s hw hL=>ks fun hn=> @LP L _ hn s hw hL
theorem MM(hn:5<=n)(s:List UInt8)(al:Int)(hw:dU al s=true)(hL:2^60<=L):aA env L n 79 [.d (.str s),nI al] []=some (.d (.bool true),[]):=by
 have h1:=aOJ hw;obtain⟨h2,h3⟩:=aMT hw;have h4:=(oH hw).1;obtain _|n:=n;omega
 simp-implicitDefEqProofs (maxSteps:=9^7) (disch:=try exact Dz) only[↓DN,↓kAsg,↓kRet,UP,simprocAttr,↓aCM,↓gO,h3,h4,aC9,OS,Tryz.f79]
theorem aED:type_of% fun {L} s al hw hL=>ks fun hn=> @MM L _ hn s al hw hL:=fun {L} s al hw hL=>ks fun hn=> @MM L _ hn s al hw hL
theorem aID(hn:4<=n)(hL:2^60<=L){a:Aut}{w:List UInt8}(ha:AOK a)(hw:dU a.al w=true){k:KE R}:∀(i q:Int) (m:Nat) (h0:0<=i) (hi:i<=w.length) (hm:(w.length:Int)-i<m) (hq0:0<=q) (hq1:q<a.nx.length),
  aR env (aA env L n) L 0 [] Bz50 (PV 0) (U1 (Z2 (Z1 (U2 (Z2 (U8 (U4 (U1 ([]))))))))) m (Y1 (nI q::.d (.str w)::.ptr 0 0 0::Y2 (nI 0::nI i::Y8 (Y4 (Y1 ([])))))) [.box [nI a.al,.d (.ivs a.nx.length (aG a.nx)),.d (.ivs a.ac.length (aD a.ac))]] k
  =k (.exit 0) (Y1 (nI (stGo a.al a.nx (w.drop i.toNat) q)::.d (.str w)::.ptr 0 0 0::Y2 (nI 0::nI (w.length)::Y8 (Y4 (Y1 ([])))))) [.box [nI a.al,.d (.ivs a.nx.length (aG a.nx)),.d (.ivs a.ac.length (aD a.ac))]]:=by
 intro i q m h0 hi hm hq0 hq1;obtain⟨sa,wa,a1,a2,a3⟩:=aV ha;obtain⟨hal,hwl,hin⟩:=oH hw;obtain⟨j,hj⟩:∃j:Nat,(j:Int)=(w.length:Int)-i:=⟨((w.length:Int)-i).toNat,by omega⟩
 induction j generalizing i q m with
 |zero=>
  obtain _|m:=m;omega;obtain rfl:i=w.length:=om
  simp-implicitDefEqProofs (maxSteps:=9^7) (disch:=try exact Dz) only[↓DN,↓kRet,UP,simprocAttr,Ah,N2,M0,Tryz.f80];simp only[Bw,stGo,List.foldl_nil]
 |succ j ih=>
  obtain _|m:=m;omega;have hc:i<w.length:=om;have hk:i.toNat<w.length:=om;have hb:w.getD i.toNat 0∈w:=by rw[Aa,Ad hk];exact At hk
  have hl6:=aBX.1 (hin _ hb).1;have hg:=aBs ha hq0 hq1 hl6.1 hl6.2;have e1:(i+1).toNat=i.toNat+1:=om;have ih':=ih (i+1) (goI a.al a.nx q (ltr (w.getD i.toNat 0))) m om om om hg.1 hg.2 om;have kc_g:=@aGB L a.al q (ltr (w.getD i.toNat 0)) a.nx a.ac.length (aD a.ac) sa (pI ha) hq0 hq1 hl6.1 hl6.2 hL;rw[aMa hk,<-e1];clear ih hg hl6 hb hin
  simp-implicitDefEqProofs (maxSteps:=9^7) (disch:=try exact Dz) only[↓DN,↓kRet,UP,simprocAttr,↓DV,hc,↓kc_g,Bh,↓ih',N2,M0,Tryz.f80]
theorem aDd(hn:5<=n)(a:Aut)(w:List UInt8)(ha:AOK a)(hw:dU a.al w=true)(hL:2^60<=L):aA env L n 80 [.agg [nI a.al,.d (.ivs a.nx.length (aG a.nx)),.d (.ivs a.ac.length (aD a.ac))],nI 0,.d (.str w)] []=some (nI (stGo a.al a.nx w 0),[]):=by
 obtain⟨_,_,a1,_,_⟩:=aV ha;obtain⟨_,hwl,_⟩:=oH hw;have loop_a:=fun {R n k} hn=> @aID R L n hn hL a w ha hw k 0 0 L om om om om om;simp only[Cy,Ba]at loop_a;obtain _|n:=n;omega
 simp-implicitDefEqProofs (maxSteps:=9^7) (disch:=try exact Dz) only[↓DN,↓kAsg,↓kRet,UP,simprocAttr,↓loop_a,aNw,aGv,Tryz.f80]
theorem aM4:type_of% fun {L} a w ha hw hL=>ks fun hn=> @aDd L _ hn a w ha hw hL:=fun {L} a w ha hw hL=>ks fun hn=> @aDd L _ hn a w ha hw hL
theorem HR(hn:9<=n)(a:Aut)(w:List UInt8)(ha:AOK a)(hw:dU a.al w=true)(hL:2^60<=L):aA env L n 20 [.agg [nI a.al,.d (.ivs a.nx.length (aG a.nx)),.d (.ivs a.ac.length (aD a.ac))],.d (.str w)] []=some (.d (.bool (accW a w)),[]):=by
 obtain⟨sa,wa,a1,a2,a3⟩:=aV ha;obtain⟨r0,r1⟩:=aMk ha hw;have hrl:=sa.1;have hac:a.ac.length<=4294967296:=om
 have ev:∀ {n:Nat},8<=n->aA env L n 45 [.agg [nI a.al,.d (.ivs a.nx.length (aG a.nx)),.d (.ivs a.ac.length (aD a.ac))],.d (.str w)] []=some (nI (stGo a.al a.nx w 0),[]):=by
  intro n hn;have hve:bX a.al a.nx a.ac=true:=ha;have kc_r:=@aM4 L a w ha hw hL;have kc_w:=@aED L w a.al hw hL;clear r0 r1;obtain _|n:=n;omega
  simp-implicitDefEqProofs (maxSteps:=9^7) (disch:=try exact Dz) only[↓DN,↓kAsg,↓kRet,UP,simprocAttr,↓a8,hve,↓kc_r,↓kc_w,aD5,NX,Tryz.f45]
 have kc_s:=fun {R:Type} {n:Nat} {hq:H} {k:KA R} (hn:8<=n)=>b6 (E:=env) (call:=aA env L n) (h:=hq) (k:=k) (f:=45) rfl (ev hn) rfl (.inl rfl);unfold accW;clear wa ha hw ev;generalize stGo a.al a.nx w 0=q at *;obtain _|n:=n;omega
 simp-implicitDefEqProofs (maxSteps:=9^7) (disch:=try exact Dz) only[↓DN,↓kAsg,↓kRet,UP,simprocAttr,LA,r0,r1,↓kc_s,aBt,L6,Tryz.f20]
theorem JF:type_of% fun {L} a w ha hw hL=>ks fun hn=> @HR L _ hn a w ha hw hL:=fun {L} a w ha hw hL=>ks fun hn=> @HR L _ hn a w ha hw hL
end
section
variable{R:Type}{L n:Nat}
def AF(a b:Aut):Bool:=bX a.al a.nx a.ac&&bX b.al b.nx b.ac&&decide (a.al=b.al)
theorem VK{a b:Aut}:AF a b=true↔AOK a/\AOK b/\a.al=b.al:=by
 unfold AF AOK;simp only[As,decide_eq_true_eq,and_assoc]
def tK(a b:Aut)(l:List Str)(i:Nat):Bool:=!(accW a (l.getD i [])==accW b (l.getD i []))
def aIb(a b:Aut)(l:List Str):Str×Bool:=match seek (tK a b l) l.length 0 with
 |none=>([],false)
 |some q=>(l.getD q [],true)
def B7(a b:Aut)(x:Int):Str×Bool:=match eM a x with
 |none=>([],false)
 |some l=>if AF a b=true then aIb a b l else([],false)
theorem HB(hn:6<=n)(a b:Aut)(sa:aY a.nx)(sb:aY b.nx)(ha:a.ac.length<=4294967296)(hb:b.ac.length<=4294967296)(hL:2^60<=L):aA env L n 16 [.agg [nI a.al,.d (.ivs a.nx.length (aG a.nx)),.d (.ivs a.ac.length (aD a.ac))],.agg [nI b.al,.d (.ivs b.nx.length (aG b.nx)),.d (.ivs b.ac.length (aD b.ac))]] []=some (.d (.bool (AF a b)),[]):=by
 have hra:=sa.1;have hrb:=sb.1;unfold AF
 cases h1:bX a.al a.nx a.ac with
 |false=>
  obtain _|n:=n;omega
  simp-implicitDefEqProofs (maxSteps:=9^7) (disch:=try exact Dz) only[↓DN,↓kAsg,↓kRet,UP,simprocAttr,↓bA,h1,wV,qW,Tryz.f16]
 |true=>
  cases h2:bX b.al b.nx b.ac with
  |false=>
   obtain _|n:=n;omega
   simp-implicitDefEqProofs (maxSteps:=9^7) (disch:=try exact Dz) only[↓DN,↓kAsg,↓kRet,UP,simprocAttr,↓bA,h1,h2,wV,qW,Tryz.f16]
  |true=>
   obtain _|n:=n;omega
   simp-implicitDefEqProofs (maxSteps:=9^7) (disch:=try exact Dz) only[↓DN,↓kAsg,↓kRet,UP,simprocAttr,↓bA,h1,h2,wV,qW,Tryz.f16]
theorem aCn:type_of% fun {L} a b sa sb ha hb hL=>ks fun hn=> @HB L _ hn a b sa sb ha hb hL:=fun {L} a b sa sb ha hb hL=>ks fun hn=> @HB L _ hn a b sa sb ha hb hL
theorem TW(hn:7<=n)(hL:2^60<=L){a b:Aut}{l:List Str}(hl:l.length<=3000)(ha:AOK a)(hb:AOK b)(hal:a.al=b.al)(hok:∀w∈l,dU a.al w=true){k:KE R}:∀(j i m:Nat) (hi:i+j=l.length) (hm:j<m),
  aR env (aA env L n) L 0 [] Bz29 (uT 0) (U2 (U1 (Z2 (U1 (Z2 (U16 (U2 (Z2 (Z1 (U8 (U4 ([])))))))))))) m (Y2 (Y1 (.ptr 0 0 0::.ptr 1 0 0::Y1 (.d (.str ([]))::.d (.bool false)::Y16 (Y2 (.sl 2 0 0 l.length::nI (l.length)::nI i::Y8 (Y4 ([])))))))) [.box [nI a.al,.d (.ivs a.nx.length (aG a.nx)),.d (.ivs a.ac.length (aD a.ac))],.box [nI b.al,.d (.ivs b.nx.length (aG b.nx)),.d (.ivs b.ac.length (aD b.ac))],.arr (aM l) 1 0] k
  =match seek (tK a b l) j i with
   |none=>k (.exit 0) (Y2 (Y1 (.ptr 0 0 0::.ptr 1 0 0::Y1 (.d (.str ([]))::.d (.bool false)::Y16 (Y2 (.sl 2 0 0 l.length::nI (l.length)::nI (l.length)::Y8 (Y4 ([])))))))) [.box [nI a.al,.d (.ivs a.nx.length (aG a.nx)),.d (.ivs a.ac.length (aD a.ac))],.box [nI b.al,.d (.ivs b.nx.length (aG b.nx)),.d (.ivs b.ac.length (aD b.ac))],.arr (aM l) 1 0]
   |some q=>k .ret (Y2 (Y1 (.ptr 0 0 0::.ptr 1 0 0::Y1 (.d (.str ((l.getD q [])))::.d (.bool true)::Y16 (Y2 (.sl 2 0 0 l.length::nI (l.length)::nI q::Y8 (Y4 ([])))))))) [.box [nI a.al,.d (.ivs a.nx.length (aG a.nx)),.d (.ivs a.ac.length (aD a.ac))],.box [nI b.al,.d (.ivs b.nx.length (aG b.nx)),.d (.ivs b.ac.length (aD b.ac))],.arr (aM l) 1 0]:=by
 intro j
 induction j with
 |zero=>
  intro i m hi hm;obtain _|m:=m;omega;obtain rfl:i=l.length:=om
  simp-implicitDefEqProofs (maxSteps:=9^7) (disch:=try exact Dz) only[↓DN,↓kRet,UP,simprocAttr,Ah,oA,lW,Tryz.f5]<;>rfl
 |succ j ih=>
  intro i m hi hm;obtain _|m:=m;omega;have hc:(i:Int)<l.length:=om;have hi0:(0:Int)<=i:=om;have hw:=hok _ (d7 (show i<l.length by omega));have kc_a:=@G9 L a (l.getD i []) ha hw hL;have kc_b:=@G9 L b (l.getD i []) hb (by rw[<-hal];exact hw) hL;have hwr:tK a b l i= !(accW a (l.getD i [])==accW b (l.getD i [])):=rfl
  by_cases hz:(accW a (l.getD i [])==accW b (l.getD i []))=true
  ·rw[hz]at hwr;rw[iY hwr];have ih':=ih (i+1) m om om;rw[cs1 i]at ih';clear ih hok hw hwr ha hb;generalize accW a (l.getD i [])=x at *;generalize accW b (l.getD i [])=y at *;generalize hwi:l.getD i []=w at *
   simp-implicitDefEqProofs (maxSteps:=9^7) (disch:=try exact Dz) only[↓DN,↓kRet,UP,simprocAttr,SE,hc,hi0,hwi,hz,↓kc_a,↓kc_b,Bh,↓ih',oA,lW,Tryz.f5]
  ·rw[Bool.not_eq_true]at hz;rw[hz]at hwr;rw[fB hwr];clear ih hok hw hwr ha hb;generalize accW a (l.getD i [])=x at *;generalize accW b (l.getD i [])=y at *;generalize hwi:l.getD i []=w at *
   simp-implicitDefEqProofs (maxSteps:=9^7) (disch:=try exact Dz) only[↓DN,↓kAsg,↓kRet,UP,simprocAttr,SE,hc,hi0,hwi,hz,↓kc_a,↓kc_b,Bh,oA,lW,Tryz.f5]
theorem FQ(hn:16<=n)(a b:Aut)(x:Int)(sa:aY a.nx)(sb:aY b.nx)(ha:a.ac.length<=4294967296)(hb:b.ac.length<=4294967296)(hL:2^60<=L):aA env L n 5 [.agg [nI a.al,.d (.ivs a.nx.length (aG a.nx)),.d (.ivs a.ac.length (aD a.ac))],.agg [nI b.al,.d (.ivs b.nx.length (aG b.nx)),.d (.ivs b.ac.length (aD b.ac))],nI x] []=some (.tup [.d (.str (B7 a b x).1),.d (.bool (B7 a b x).2)],[]):=by
 have hra:=sa.1;have hrb:=sb.1;have hI:=fun {n:Nat} (hn:15<=n)=>OA (L:=L) hn a x sa ha hL;unfold B7
 cases hG:eM a x with
 |none=>
  rw[hG]at hI;have kc_1:=fun {R:Type} {n:Nat} {hq:H} {k:KA R} (hn:15<=n)=>SI (h:=hq) (k:=k) rfl iT (hI hn);clear hI;obtain _|n:=n;omega
  simp-implicitDefEqProofs (maxSteps:=9^7) (disch:=try exact Dz) only[↓DN,↓kAsg,↓kRet,UP,simprocAttr,↓kc_1,mZ,lD,Tryz.f5]
 |some l=>
  rw[hG]at hI;have kc_1:=fun {R:Type} {n:Nat} {hq:H} {k:KA R} (hn:15<=n)=>Z9 (h:=hq) (k:=k) rfl iT (hI hn);have kc_c:=@aCn L a b sa sb ha hb hL;obtain⟨hv,y0,_,_,hl⟩:=xG hG;clear hI
  cases hcm:AF a b with
  |false=>
   rw[hcm]at kc_c;simp only[Ak,if_false];obtain _|n:=n;omega
   simp-implicitDefEqProofs (maxSteps:=9^7) (disch:=try exact Dz) only[↓DN,↓kAsg,↓kRet,UP,simprocAttr,↓kc_1,↓kc_c,mZ,lD,Tryz.f5]
  |true=>
   rw[hcm]at kc_c;obtain⟨va,vb,hal⟩:=VK.1 hcm;have loop_a:=fun {R n k} hn=> @TW R L n hn hL a b l hl va vb hal (fun w hw=>(aAt hG hw).2.1) k l.length 0 L om om;simp only[Aq]at loop_a;simp only[if_true];unfold aIb;clear hv va vb hG
   cases hs:seek (tK a b l) l.length 0 with
   |none=>
    simp only[hs]at loop_a;obtain _|n:=n;omega
    simp-implicitDefEqProofs (maxSteps:=9^7) (disch:=try exact Dz) only[↓DN,↓kAsg,↓kRet,UP,simprocAttr,↓kc_1,↓kc_c,↓loop_a,mZ,lD,Tryz.f5]
   |some q=>
    simp only[hs]at loop_a;obtain _|n:=n;omega
    simp-implicitDefEqProofs (maxSteps:=9^7) (disch:=try exact Dz) only[↓DN,↓kAsg,↓kRet,UP,simprocAttr,↓kc_1,↓kc_c,↓loop_a,mZ,lD,Tryz.f5]
theorem FH:type_of% fun {L} a b x sa sb ha hb hL=>ks fun hn=> @FQ L _ hn a b x sa sb ha hb hL:=fun {L} a b x sa sb ha hb hL=>ks fun hn=> @FQ L _ hn a b x sa sb ha hb hL
theorem aCt(hn:6<=n)(a b:Aut)(sa:aY a.nx)(sb:aY b.nx)(ha:a.ac.length<=4294967296)(hb:b.ac.length<=4294967296)(hL:2^60<=L):aA env L n 19 [.agg [nI a.al,.d (.ivs a.nx.length (aG a.nx)),.d (.ivs a.ac.length (aD a.ac))],.agg [nI b.al,.d (.ivs b.nx.length (aG b.nx)),.d (.ivs b.ac.length (aD b.ac))]] []=some (.d (.bool (AF a b)),[]):=by
 have hra:=sa.1;have hrb:=sb.1;unfold AF
 cases h1:bX a.al a.nx a.ac with
 |false=>
  obtain _|n:=n;omega
  simp-implicitDefEqProofs (maxSteps:=9^7) (disch:=try exact Dz) only[↓DN,↓kAsg,↓kRet,UP,simprocAttr,↓a8,h1,RH,LW,Tryz.f19]
 |true=>
  cases h2:bX b.al b.nx b.ac with
  |false=>
   obtain _|n:=n;omega
   simp-implicitDefEqProofs (maxSteps:=9^7) (disch:=try exact Dz) only[↓DN,↓kAsg,↓kRet,UP,simprocAttr,↓a8,h1,h2,RH,LW,Tryz.f19]
  |true=>
   obtain _|n:=n;omega
   simp-implicitDefEqProofs (maxSteps:=9^7) (disch:=try exact Dz) only[↓DN,↓kAsg,↓kRet,UP,simprocAttr,↓a8,h1,h2,RH,LW,Tryz.f19]
theorem aMW:type_of% fun {L} a b sa sb ha hb hL=>ks fun hn=> @aCt L _ hn a b sa sb ha hb hL:=fun {L} a b sa sb ha hb hL=>ks fun hn=> @aCt L _ hn a b sa sb ha hb hL
theorem TM(hn:9<=n)(hL:2^60<=L){a b:Aut}{l:List Str}(hl:l.length<=3000)(ha:AOK a)(hb:AOK b)(hal:a.al=b.al)(hok:∀w∈l,dU a.al w=true){k:KE R}:∀(j i m:Nat) (hi:i+j=l.length) (hm:j<m),
  aR env (aA env L n) L 0 [] Bz30 (uR 0) (U2 (U1 (Z2 (U1 (Z2 (Z1 (U1 (Z1 (U32 (U4 (U1 ([])))))))))))) m (Y2 (Y1 (.ptr 0 0 0::.ptr 1 0 0::Y1 (.d (.str ([]))::.d (.bool false)::.d (.ivs l.length (aM l))::Y1 (nI i::Y32 (Y4 (Y1 ([])))))))) [.box [nI a.al,.d (.ivs a.nx.length (aG a.nx)),.d (.ivs a.ac.length (aD a.ac))],.box [nI b.al,.d (.ivs b.nx.length (aG b.nx)),.d (.ivs b.ac.length (aD b.ac))]] k
  =match seek (tK a b l) j i with
   |none=>k (.exit 0) (Y2 (Y1 (.ptr 0 0 0::.ptr 1 0 0::Y1 (.d (.str ([]))::.d (.bool false)::.d (.ivs l.length (aM l))::Y1 (nI (l.length)::Y32 (Y4 (Y1 ([])))))))) [.box [nI a.al,.d (.ivs a.nx.length (aG a.nx)),.d (.ivs a.ac.length (aD a.ac))],.box [nI b.al,.d (.ivs b.nx.length (aG b.nx)),.d (.ivs b.ac.length (aD b.ac))]]
   |some q=>k .ret (Y2 (Y1 (.ptr 0 0 0::.ptr 1 0 0::Y1 (.d (.str ((l.getD q [])))::.d (.bool true)::.d (.ivs l.length (aM l))::Y1 (nI q::Y32 (Y4 (Y1 ([])))))))) [.box [nI a.al,.d (.ivs a.nx.length (aG a.nx)),.d (.ivs a.ac.length (aD a.ac))],.box [nI b.al,.d (.ivs b.nx.length (aG b.nx)),.d (.ivs b.ac.length (aD b.ac))]]:=by
 intro j
 induction j with
 |zero=>
  intro i m hi hm;obtain _|m:=m;omega;obtain rfl:i=l.length:=om
  simp-implicitDefEqProofs (maxSteps:=9^7) (disch:=try exact Dz) only[↓DN,↓kRet,UP,simprocAttr,Ah,nX,mD,Tryz.f6]<;>rfl
 |succ j ih=>
  intro i m hi hm;obtain _|m:=m;omega;have hc:(i:Int)<l.length:=om;have hi0:(0:Int)<=i:=om;have hw:=hok _ (d7 (show i<l.length by omega));have kc_a:=@JF L a (l.getD i []) ha hw hL;have kc_b:=@JF L b (l.getD i []) hb (by rw[<-hal];exact hw) hL;have hwr:tK a b l i= !(accW a (l.getD i [])==accW b (l.getD i [])):=rfl
  by_cases hz:(accW a (l.getD i [])==accW b (l.getD i []))=true
  ·rw[hz]at hwr;rw[iY hwr];have ih':=ih (i+1) m om om;rw[cs1 i]at ih';clear ih hok hw hwr ha hb;generalize accW a (l.getD i [])=x at *;generalize accW b (l.getD i [])=y at *;generalize hwi:l.getD i []=w at *
   simp-implicitDefEqProofs (maxSteps:=9^7) (disch:=try exact Dz) only[↓DN,↓kRet,UP,simprocAttr,SE,hc,hi0,hwi,hz,↓kc_a,↓kc_b,Bh,↓ih',nX,mD,Tryz.f6]
  ·rw[Bool.not_eq_true]at hz;rw[hz]at hwr;rw[fB hwr];clear ih hok hw hwr ha hb;generalize accW a (l.getD i [])=x at *;generalize accW b (l.getD i [])=y at *;generalize hwi:l.getD i []=w at *
   simp-implicitDefEqProofs (maxSteps:=9^7) (disch:=try exact Dz) only[↓DN,↓kAsg,↓kRet,UP,simprocAttr,SE,hc,hi0,hwi,hz,↓kc_a,↓kc_b,Bh,nX,mD,Tryz.f6]
theorem FB(hn:16<=n)(a b:Aut)(x:Int)(sa:aY a.nx)(sb:aY b.nx)(ha:a.ac.length<=4294967296)(hb:b.ac.length<=4294967296)(hL:2^60<=L):aA env L n 6 [.agg [nI a.al,.d (.ivs a.nx.length (aG a.nx)),.d (.ivs a.ac.length (aD a.ac))],.agg [nI b.al,.d (.ivs b.nx.length (aG b.nx)),.d (.ivs b.ac.length (aD b.ac))],nI x] []=some (.tup [.d (.str (B7 a b x).1),.d (.bool (B7 a b x).2)],[]):=by
 have hra:=sa.1;have hrb:=sb.1;have kc_1:=@aE2 L a x sa ha hL;unfold B7
 cases hG:eM a x with
 |none=>
  rw[hG]at kc_1;simp only[Option.getD_none,Cs,Ac,kM]at kc_1;obtain _|n:=n;omega
  simp-implicitDefEqProofs (maxSteps:=9^7) (disch:=try exact Dz) only[↓DN,↓kAsg,↓kRet,UP,simprocAttr,↓kc_1,m2,kX,Tryz.f6]
 |some l=>
  rw[hG]at kc_1;simp only[Bb,Dj]at kc_1;have kc_c:=@aMW L a b sa sb ha hb hL;obtain⟨hv,y0,_,_,hl⟩:=xG hG
  cases hcm:AF a b with
  |false=>
   rw[hcm]at kc_c;simp only[Ak,if_false];obtain _|n:=n;omega
   simp-implicitDefEqProofs (maxSteps:=9^7) (disch:=try exact Dz) only[↓DN,↓kAsg,↓kRet,UP,simprocAttr,↓kc_1,↓kc_c,m2,kX,Tryz.f6]
  |true=>
   rw[hcm]at kc_c;obtain⟨va,vb,hal⟩:=VK.1 hcm;have loop_a:=fun {R n k} hn=> @TM R L n hn hL a b l hl va vb hal (fun w hw=>(aAt hG hw).2.1) k l.length 0 L om om;simp only[Aq]at loop_a;simp only[if_true];unfold aIb;clear hv va vb hG
   cases hs:seek (tK a b l) l.length 0 with
   |none=>
    simp only[hs]at loop_a;obtain _|n:=n;omega
    simp-implicitDefEqProofs (maxSteps:=9^7) (disch:=try exact Dz) only[↓DN,↓kAsg,↓kRet,UP,simprocAttr,↓kc_1,↓kc_c,↓loop_a,m2,kX,Tryz.f6]
   |some q=>
    simp only[hs]at loop_a;obtain _|n:=n;omega
    simp-implicitDefEqProofs (maxSteps:=9^7) (disch:=try exact Dz) only[↓DN,↓kAsg,↓kRet,UP,simprocAttr,↓kc_1,↓kc_c,↓loop_a,m2,kX,Tryz.f6]
theorem ZO:type_of% fun {L} a b x sa sb ha hb hL=>ks fun hn=> @FB L _ hn a b x sa sb ha hb hL:=fun {L} a b x sa sb ha hb hL=>ks fun hn=> @FB L _ hn a b x sa sb ha hb hL
end
def quoG(a:Aut)(cl:List Int):Nat->Nat->List (List Int)->List Bool->List (List Int)×List Bool
 |0,_,d,b=>(d,b)
 |j+1,q,d,b=>if cl.getD q 0<d.length then quoG a cl j (q+1) d b else quoG a cl j (q+1) (d++[(a.nx.getD q []).map (clA cl)]) (b++[acQ a q])
def quoA(a:Aut):Aut:=⟨a.al,(quoG a (bP a) a.nx.length 0 [] []).1,(quoG a (bP a) a.nx.length 0 [] []).2⟩
structure Quo(a:Aut)(l:List (List Int))(cl:List Int)(q:Nat)(d:List (List Int))(b:List Bool):Prop where
 len:d.length=(aU (l.take q)).length
 blen:b.length=d.length
 low:∀p,p<q->0<=cl.getD p 0/\cl.getD p 0<d.length
 row:∀p,p<q->d.getD (cl.getD p 0).toNat []=(a.nx.getD p []).map (clA cl)
 acc:∀p,p<q->b.getD (cl.getD p 0).toNat false=acQ a p
 mem:∀r∈d,∃p,p<q/\r=(a.nx.getD p []).map (clA cl)
structure QuoOK(a:Aut):Prop where
 ok:AOK (quoA a)
 zero:(bP a).getD 0 0=0
 low:∀q:Nat,q<a.nx.length->0<=(bP a).getD q 0/\(bP a).getD q 0<(quoA a).nx.length
 go:∀q:Nat,q<a.nx.length->∀l∈aB a.al,goS (quoA a) ((bP a).getD q 0) l=clA (bP a) (goS a q l)
 acc:∀q:Nat,q<a.nx.length->acQ (quoA a) ((bP a).getD q 0)=acQ a q
section
section
variable{a:Aut}{x y:Int}
end
end

structure FailOK(a b:Aut)(x:Int)(l:List Str)(w:Str):Prop where
 s:eM a x=some l
 c:AF a b=true
 m:w∈l
 d:accW a w≠accW b w
section
variable{R:Type}{L n:Nat}
def jH(a:Aut):Aut:=⟨a.al,a.nx,a.ac.map (!·)⟩
theorem aKw{a:Aut}(h:AOK a):AOK (jH a):=by
 show bX a.al a.nx (a.ac.map _)=true;unfold bX;rw[Ao];exact h
theorem aE9{l:List Bool}(hl:l.length<=4294967296):mA 1 [.d (.ivs l.length (aD l))] []=some (.sl 0 0 0 l.length,[.arr (aD l) 1 0]):=by
 have h2:b8 [] 1 (.d (.ivs l.length (aD l)))=some (l.length,aD l):=by
  simp only[b8,cL,Cc,if_true]
 have h3:l.length<=bH:=by unfold bH;omega
 simp only[mA,h2,h3,if_true]<;>rfl
theorem aH2{l:List Int}(hl:l.length<=4294967296):mA 1 [.d (.ivs l.length (ints l))] []=some (.sl 0 0 0 l.length,[.arr (ints l) 1 0]):=by
 have h2:b8 [] 1 (.d (.ivs l.length (ints l)))=some (l.length,ints l):=by
  simp only[b8,d8,Cc,if_true]
 have h3:l.length<=bH:=by unfold bH;omega
 simp only[mA,h2,h3,if_true]<;>rfl
theorem aDZ{R:Type}{E:Env}{call:aX}{h h2:H}{f:FuncId}{args:List A}{r:A}{k:KA R}(hs:args.all pD=true)(hm:(E.hint f).mode=0)(hc:call f args []=some (r,h2)):
  aW E call h f args k=k (mapA (back [] h.length h2.length) r) (h++h2.map (mapO (back [] h.length h2.length))):=by
 have hid:=sY hs;unfold aW;rw[hid,oM,eD _ hid];have hpk:pack h []=[]:=rfl;rw[hpk];unfold bS;rw[hm,hc];simp only[Ac,Co,true_and,closed,Bz,Bt,if_true,bG]
theorem GH{hq:H}{k:KA R}(hn:1<=n)(l:List Bool)(hl:l.length<=4294967296):
  aW env (aA env L n) hq 58 [.d (.ivs l.length (aD l))] k=k (.sl hq.length 0 0 l.length) (hq++[.arr (aD l) 1 0]):=by
 obtain _|n:=n;omega;rw[aDZ rfl jM (by rw[CO];exact aE9 hl)];simp[mapA,back,mapO]
theorem uH{hq:H}{k:KA R}(hn:1<=n)(l:List Int)(hl:l.length<=4294967296):
  aW env (aA env L n) hq 59 [.d (.ivs l.length (ints l))] k=k (.sl hq.length 0 0 l.length) (hq++[.arr (ints l) 1 0]):=by
 obtain _|n:=n;omega;rw[aDZ rfl kD (by rw[GD];exact aH2 hl)];simp[mapA,back,mapO]
theorem QR(hn:2<=n)(hL:2^60<=L){a:Aut}(hs:aY a.nx){z:Nat}{cs2:List D}{k:KE R}:∀(j i m:Nat) (d:List (List Int)) (len e:Nat) (hi:i+j=a.nx.length) (hm:j<m) (hd:d=a.nx.take i) (hlen:i=len) (he:e=if i=0 then 0 else 1),
  aR env (aA env L n) L 0 [] Bz48 (rZ 0) (U2 (Z2 (U8 (U1 (Z2 (Z1 (U8 (U4 ([]))))))))) m (Y2 (.ptr 0 0 0::.ptr 1 0 0::Y8 (Y1 (.d (.ivs a.nx.length (aG a.nx))::nI (a.nx.length)::nI i::Y8 (Y4 ([])))))) [.box [nI 0,.sl 2 0 0 0,.sl 3 0 0 0],.box [nI a.al,.sl 4 0 0 len,.sl 5 0 0 z],.arr [] 0 0,.arr [] 0 0,.arr (aG d) e 0,.arr cs2 1 0] k
  =k (.exit 0) (Y2 (.ptr 0 0 0::.ptr 1 0 0::Y8 (Y1 (.d (.ivs a.nx.length (aG a.nx))::nI (a.nx.length)::nI (a.nx.length)::Y8 (Y4 ([])))))) [.box [nI 0,.sl 2 0 0 0,.sl 3 0 0 0],.box [nI a.al,.sl 4 0 0 a.nx.length,.sl 5 0 0 z],.arr [] 0 0,.arr [] 0 0,.arr (aG a.nx) (if a.nx.length=0 then 0 else 1) 0,.arr cs2 1 0]:=by
 intro j
 induction j with
 |zero=>
  intro i m d len e hi hm hd hlen he;obtain _|m:=m;omega;obtain rfl:i=a.nx.length:=om;rw[Cv]at hd;subst hd;subst hlen;subst he
  simp-implicitDefEqProofs (maxSteps:=9^7) (disch:=try exact Dz) only[↓DN,↓kRet,UP,simprocAttr,Ah,mT,lI,Tryz.f28]
 |succ j ih=>
  intro i m d len e hi hm hd hlen he;obtain _|m:=m;omega;subst hlen;have hk:i<a.nx.length:=om;have hc:(i:Int)<a.nx.length:=om;have hi0:(0:Int)<=i:=om;have hnl:=hs.1;have hrl:=mO hs hk;have hdl:d.length=i:=by rw[hd,Bk];omega
  have ih':=ih (i+1) m (d++[a.nx.getD i []]) (i+1) 1 om om (by rw[hd,De,Aa,Ad hk];rfl) rfl (by rw[if_neg om]);rw[cs1 i]at ih';have ht:(aG d).take i=aG d:=mC om;clear ih hd;generalize hw:a.nx.getD i []=w at *;have hwt:(ints w).take w.length=ints w:=by rw[cW (Ab _)]
  by_cases hz:i=0
  ·obtain rfl:e=0:=by rw[he,if_pos hz]
   clear he hz
   simp-implicitDefEqProofs (maxSteps:=9^7) (disch:=try exact Dz) only[↓DN,↓kRet,UP,simprocAttr,↓uH,LA,hc,hi0,hw,ht,hwt,r7,↓ih',mT,lI,Tryz.f28]
  ·obtain rfl:e=1:=by rw[he,if_neg hz]
   clear he hz
   simp-implicitDefEqProofs (maxSteps:=9^7) (disch:=try exact Dz) only[↓DN,↓kRet,UP,simprocAttr,↓uH,LA,hc,hi0,hw,ht,hwt,r7,↓ih',mT,lI,Tryz.f28]
theorem VG(hn:3<=n)(a:Aut)(ha:AOK a)(hL:2^60<=L):aA env L n 28 [.agg [nI a.al,.d (.ivs a.nx.length (aG a.nx)),.d (.ivs a.ac.length (aD a.ac))]] []=some (.agg [nI a.al,.sl 0 0 0 a.nx.length,.sl 1 0 0 a.ac.length],[.arr (aG a.nx) 1 0,.arr (aD a.ac) 1 0]):=by
 obtain⟨sa,wa,a1,a2,a3⟩:=aV ha;have loop_c:=fun {R n k} hn=> @QR R L n hn hL a sa a.ac.length (aD a.ac) k a.nx.length 0 L [] 0 0 om om rfl rfl rfl;simp only[Aq,ML,if_neg (show ¬a.nx.length=0 by omega)]at loop_c;obtain _|n:=n;omega
 simp-implicitDefEqProofs (maxSteps:=9^7) (disch:=try exact Dz) only[↓DN,↓kRet,UP,simprocAttr,↓GH,↓loop_c,UH,FF,Tryz.f28]
theorem aND{hq:H}{k:KA R}(hn:3<=n)(a:Aut)(ha:AOK a)(hL:2^60<=L):aW env (aA env L n) hq 28 [.agg [nI a.al,.d (.ivs a.nx.length (aG a.nx)),.d (.ivs a.ac.length (aD a.ac))]] k=k (.agg [nI a.al,.sl hq.length 0 0 a.nx.length,.sl (hq.length+1) 0 0 a.ac.length]) (hq++[.arr (aG a.nx) 1 0,.arr (aD a.ac) 1 0]):=by
 have hcall:bS (aA env L n) env.hint [] 28 [.agg [nI a.al,.d (.ivs a.nx.length (aG a.nx)),.d (.ivs a.ac.length (aD a.ac))]]=some (.agg [nI a.al,.sl 0 0 0 a.nx.length,.sl 1 0 0 a.ac.length],[.arr (aG a.nx) 1 0,.arr (aD a.ac) 1 0]):=by
  have hf:dX [] [.agg [nI a.al,.d (.ivs a.nx.length (aG a.nx)),.d (.ivs a.ac.length (aD a.ac))]]=some ([.agg [nI a.al,.d (.ivs a.nx.length (aG a.nx)),.d (.ivs a.ac.length (aD a.ac))]],[]):=rfl;unfold bS;rw[oS];simp only[hf,VG hn a ha hL];simp[mapA,aF,back,mapO,aG,aD]
 have hids:idsL [A.agg [nI a.al,.d (.ivs a.nx.length (aG a.nx)),.d (.ivs a.ac.length (aD a.ac))]]=[]:=rfl;unfold aW;rw[hids,oM,eD _ hids];have hp:pack hq []=[]:=rfl;rw[hp,hcall];simp only[Ac,Co,true_and,closed,Bz,Bt,if_true,bG];simp[mapA,aF,back,mapO,aD,aG]
def F4:Nat->Nat->List Bool->List Bool
 |0,_,x=>x
 |j+1,i,x=>F4 j (i+1) (x.set i (!(x.getD i false)))
theorem aKp:∀(j i:Nat) (x:List Bool),i+j=x.length->F4 j i x=x.take i++(x.drop i).map (!·)
 |0,i,x,h=>by
  obtain rfl:i=x.length:=om;simp[F4]
 |j+1,i,x,h=>by
  have hi:i<x.length:=om;rw[F4,aKp j (i+1) _ (by rw[Bj];omega),List.drop_set_of_lt om,List.take_set,De,Ad hi,Df hi,Aa,Ad hi]
  have e:(x.take i++(some x[i]).toList).set i (!x[i])=x.take i++[!x[i]]:=by
   rw[Do _ _ (by rw[Bk];omega),Bk,Nat.min_eq_left om,Bh];rfl
  simp only[Bb];rw[e,Ai,Al];rfl
theorem ES(hn:1<=n)(hL:2^60<=L){al:Int}{z:Nat}{cs:List D}{k:KE R}:∀(j i m:Nat) (x:List Bool) (len:Nat) (hx:len<=4294967295) (hi:i+j=len) (hm:j<m) (hlen:x.length=len),
  aR env (aA env L n) L 0 [] Bz42 (lA 0) (U2 (Z2 (Z1 (U8 (U1 (Z2 (U8 (U4 (U2 ([])))))))))) m (Y2 (.ptr 0 0 0::.d (.bool false)::.ptr 1 0 0::Y8 (Y1 (nI len::nI i::Y8 (Y4 (Y2 ([]))))))) [.box [nI 0,.sl 2 0 0 0,.sl 3 0 0 0],.box [nI al,.sl 4 0 0 z,.sl 5 0 0 len],.arr [] 0 0,.arr [] 0 0,.arr cs 1 0,.arr (aD x) 1 0] k
  =k (.exit 0) (Y2 (.ptr 0 0 0::.d (.bool false)::.ptr 1 0 0::Y8 (Y1 (nI len::nI len::Y8 (Y4 (Y2 ([]))))))) [.box [nI 0,.sl 2 0 0 0,.sl 3 0 0 0],.box [nI al,.sl 4 0 0 z,.sl 5 0 0 len],.arr [] 0 0,.arr [] 0 0,.arr cs 1 0,.arr (aD (F4 j i x)) 1 0]:=by
 intro j
 induction j with
 |zero=>
  intro i m x len hx hi hm hlen;obtain _|m:=m;omega;obtain rfl:i=len:=om;unfold F4
  simp-implicitDefEqProofs (maxSteps:=9^7) (disch:=try exact Dz) only[↓DN,↓kRet,UP,simprocAttr,Ah,nJ,j9,Tryz.f8]
 |succ j ih=>
  intro i m x len hx hi hm hlen;obtain _|m:=m;omega;have hk:i<len:=om;have hk2:i<x.length:=om;have hc:(i:Int)<len:=om;have hi0:(0:Int)<=i:=om;have ih':=ih (i+1) m (x.set i (!(x.getD i false))) len hx om om (by rw[Bj,hlen]);rw[cs1 i]at ih'
  have hs1:(aD x).take i++[.bool (!(x.getD i false))]++(aD x).drop (i+1)=aD (x.set i (!(x.getD i false))):=by
   have:=List.set_eq_take_append_cons_drop (l:=aD x) (i:=i) (a:=D.bool (!(x.getD i false)));rw[if_pos (by rw[cL];omega)]at this;rw[Al,Ea,<-this];simp[aD,List.map_set]
  have hbl:(aD x).length=len:=by rw[cL,hlen]
  clear ih;rw[F4];generalize hw:x.getD i false=w at *;generalize F4 j (i+1) (x.set i !w)=y at *
  simp-implicitDefEqProofs (maxSteps:=9^7) (disch:=try exact Dz) only[↓DN,↓kRet,UP,simprocAttr,LA,hc,hi0,hw,hs1,hbl,↓ih',nJ,j9,Tryz.f8]
theorem sH(hn:5<=n)(a:Aut)(ha:AOK a)(hL:2^60<=L):aA env L n 8 [.agg [nI a.al,.d (.ivs a.nx.length (aG a.nx)),.d (.ivs a.ac.length (aD a.ac))]] []=some (.tup [.agg [nI a.al,.d (.ivs a.nx.length (aG a.nx)),.d (.ivs (jH a).ac.length (aD (jH a).ac))],.d (.bool true)],[]):=by
 obtain⟨sa,wa,a1,a2,a3⟩:=aV ha;have hrl:=sa.1;have hac:a.ac.length<=4294967295:=om;have hlen:(jH a).ac.length=a.ac.length:=Ao _
 have e1:F4 a.ac.length 0 a.ac=(jH a).ac:=by
  rw[aKp _ _ _ om];rfl
 have kd_c:=fun {R n hq k} hn=> @aND R L n hq k hn a ha hL;have loop_c:=fun {R:Type} {n:Nat} {al:Int} {z:Nat} {cs:List D} {k:KE R} (hn:1<=n)=> @ES R L n hn hL al z cs k a.ac.length 0 L a.ac a.ac.length hac om om rfl;rw[e1]at loop_c;simp only[Aq]at loop_c;rw[hlen];have hv:bX a.al a.nx a.ac=true:=ha;have ht1:(aG a.nx).take a.nx.length=aG a.nx:=mC om;have ht2:(aD (jH a).ac).take a.ac.length=aD (jH a).ac:=kF om;have hy2:(aD (jH a).ac).length=a.ac.length:=by rw[cL,hlen]
 clear ha e1;generalize(jH a).ac=w at *;obtain _|n:=n;omega
 simp-implicitDefEqProofs (maxSteps:=9^7) (disch:=try exact Dz) only[↓DN,↓kAsg,↓kRet,UP,simprocAttr,↓bA,LA,hv,↓kd_c,↓loop_c,ht1,ht2,hy2,Ab,I6,t8,Tryz.f8]
theorem IE:type_of% fun {L} a ha hL=>ks fun hn=> @sH L _ hn a ha hL:=fun {L} a ha hL=>ks fun hn=> @sH L _ hn a ha hL
end
theorem aMY{a:Aut}{x:Int}{l:List Str}(hG:eM a x=some l):B7 a (jH a) x=([],true):=by
 obtain⟨ha,_,_,_,_⟩:=xG hG;obtain⟨f1,f2⟩:=aI0 hG;obtain⟨_,_,a1,_,a3⟩:=aV ha;have hc:AF a (jH a)=true:=VK.2 ⟨ha,aKw ha,rfl⟩
 have hw:tK a (jH a) l 0=true:=by
  have h0:0<a.ac.length:=om;unfold tK;rw[f2];show(!(a.ac.getD 0 false==(a.ac.map (!·)).getD 0 false))=true;rw[Aa,Aa,Bd,Ad h0];simp
 unfold B7;rw[hG];simp only;rw[if_pos hc];unfold aIb;obtain⟨j,hj⟩:∃j,l.length=j+1:=⟨l.length-1,by omega⟩
 rw[hj,fB hw];simp only[f2]
theorem Y7{L n:Nat}(hn:32<=n)(c:List UInt8)(hL:2^60<=L):aA env L n 3 [.d (.ivs c.length (bK c))] []=some (.d (.bool true),[]):=by
 by_cases hsz:(1048576:Int)<c.length
 ·obtain _|n:=n;omega
  simp-implicitDefEqProofs (maxSteps:=9^7) (disch:=try exact Dz) only[↓DN,↓kAsg,↓kRet,UP,simprocAttr,hsz,uU,oX,Tryz.f3]
 ·obtain⟨a,b,x,b1,b2,x0,x1,kd⟩:=TN c om;have sa:=b1.short om;have sb:=b2.short om;have ha:a.ac.length<=4294967296:=by have:=b1.a;omega
  have hb:b.ac.length<=4294967296:=by have:=b2.a;omega
  unfold autD at kd;have kc_f:=@FH L a b x sa sb ha hb hL;have kc_g:=@ZO L a b x sa sb ha hb hL;have hI:=fun {n:Nat} (hn:15<=n)=>OA (L:=L) hn a x sa ha hL;have hq1:∀p:Bool,(p==p)=true:=sm;have hq2:∀p:Bool,(p !=p)=false:=sm
  cases hG:eM a x with
  |none=>
   rw[hG]at hI;have kc_1:=fun {R:Type} {n:Nat} {hq:H} {k:KA R} (hn:15<=n)=>SI (h:=hq) (k:=k) rfl iT (hI hn);clear hI;generalize B7 a b x=f at *;obtain⟨w,ok⟩:=f;obtain _|n:=n;omega
   simp-implicitDefEqProofs (maxSteps:=9^7) (disch:=try exact Dz) only[↓DN,↓kAsg,↓kRet,UP,simprocAttr,hsz,↓kd,↓kc_f,↓kc_g,↓kc_1,uU,oX,Tryz.f3]
  |some l=>
   rw[hG]at hI;have kc_1:=fun {R:Type} {n:Nat} {hq:H} {k:KA R} (hn:15<=n)=>Z9 (h:=hq) (k:=k) rfl iT (hI hn);obtain⟨va,_,_,_,hl⟩:=xG hG;obtain⟨_,_,_,_,a3⟩:=aV (aKw va);have kc_c:=@IE L a va hL;have kc_h:=@FH L a (jH a) x sa sa ha (by rw[show(jH a).ac.length=a.ac.length from Ao _];exact ha) hL;rw[aMY hG,show(jH a).al=a.al from rfl,show(jH a).nx=a.nx from rfl]at kc_h;clear hI va hG;generalize(jH a).ac=z at *;generalize B7 a b x=f at *;obtain⟨w,ok⟩:=f;obtain _|n:=n;omega
   simp-implicitDefEqProofs (maxSteps:=9^7) (disch:=try exact Dz) only[↓DN,↓kAsg,↓kRet,UP,simprocAttr,hsz,↓kd,↓kc_f,↓kc_g,↓kc_1,↓kc_c,↓kc_h,uU,oX,Tryz.f3]
end Ev
end Go.Proofs.YtppffbehejpglaaGreat
