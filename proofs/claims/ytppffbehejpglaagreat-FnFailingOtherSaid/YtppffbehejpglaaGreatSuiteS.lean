/-
  Test suites, walked: the reference's.
-/
import Derived.Test.YtppffbehejpglaaGreatSuiteW
import Derived.Test.YtppffbehejpglaaGreatSafe
import Derived.Test.YtppffbehejpglaaGreatAnyD
import Derived.Test.YtppffbehejpglaaGreatNetV
set_option linter.unusedSimpArgs false
set_option linter.unusedVariables false
set_option linter.unusedSectionVars false
set_option maxRecDepth 8000
set_option maxHeartbeats 4000000
namespace Go.Proofs.YtppffbehejpglaaGreat
namespace Ev
variable{R:Type}{L n:Nat}
def midS(ls:List Int)(n:Nat):Nat->Nat->List Str->Nat×List Str
 |0,i,o=>(i,o)
 |j+1,i,o=>if i<o.length/\(o.getD i []).length<n then midS ls n j (i+1) (o++chG ls (o.getD i []))else(i,o)
def midT(n i:Nat)(o:List Str):Prop:=i<o.length/\(o.getD i []).length<n
theorem MO{ls:List Int}{n j i:Nat}{o:List Str}(h:¬midT n i o):midS ls n j i o=(i,o):=by
 cases j with
 |zero=>rfl
 |succ j=>exact if_neg h
theorem aMo{ls:List Int}{n j i:Nat}{o:List Str}(h:midT n i o):midS ls n (j+1) i o=midS ls n j (i+1) (o++chG ls (o.getD i [])):=if_pos h
theorem aJY{ls:List Int}{n:Nat}:∀(todo pre acc:List Str) (j:Nat),(∀w∈todo,w.length<n)->midS ls n (todo.length+j) pre.length (pre++todo++acc)=midS ls n j (pre.length+todo.length) (pre++todo++acc++todo.flatMap (chG ls))
 | [],pre,acc,j,_=>by simp
 |w::todo,pre,acc,j,h=>by
  have hg:(pre++w::todo++acc).getD pre.length []=w:=by simp[Aa]
  have hl:pre.length<(pre++w::todo++acc).length:=by simp only[Af,Ae];omega
  rw[show(w::todo).length+j=(todo.length+j)+1 by rw[Ae];omega,aMo ⟨hl,by rw[hg];exact h w Bi⟩,hg];have e1:pre++w::todo++acc++chG ls w=(pre++[w])++todo++(acc++chG ls w):=sm;have e2:pre.length+1=(pre++[w]).length:=by rw[Af,Cu]
  rw[e1,e2,aJY todo (pre++[w]) (acc++chG ls w) j (fun v hv=>h v (Be _ hv))];have e3:(pre++[w]).length+todo.length=pre.length+(w::todo).length:=by rw[Af,Cu,Ae];omega
  rw[e3];simp
theorem aJV{ls:List Int}{n:Nat}:∀(k:Nat),k<=n->∃p,midG ls k=p++lvG ls k/\∀j,midS ls n (p.length+j) 0 [[]]=midS ls n j p.length (midG ls k)
 |0,_=>⟨[],rfl,fun j=>by rw[Ac,Ag];rfl⟩
 |k+1,hk=>by
  obtain⟨p,h1,h2⟩:=aJV (ls:=ls) (n:=n) k om;refine⟨midG ls k,rfl,fun j=> ?_⟩;rw[show(midG ls k).length=p.length+(lvG ls k).length by rw[h1,Af],Nat.add_assoc,h2,h1];have:=aJY (ls:=ls) (n:=n) (lvG ls k) p [] j (fun w hw=>by have:=(IN k w hw).1;omega);rw[Aj]at this;rw[this,<-Af,<-h1];rfl
theorem aL6{ls:List Int}{n:Nat}:∀(s i:Nat) (o:List Str),o.length<=(midS ls n s i o).2.length
 |0,_,_=>Ab _
 |s+1,i,o=>by
  unfold midS
  split
  ·have:=aL6 (ls:=ls) (n:=n) s (i+1) (o++chG ls (o.getD i []));rw[Af]at this;omega
  ·exact Ab _
theorem aI3{ls:List Int}{n s:Nat}:∀(t i:Nat) (o:List Str),midS ls n (t+s) i o=midS ls n s (midS ls n t i o).1 (midS ls n t i o).2
 |0,i,o=>by rw[Ag];rfl
 |t+1,i,o=>by
  by_cases h:midT n i o
  ·have e:∀u,midS ls n (u+1) i o=midS ls n u (i+1) (o++chG ls (o.getD i [])):=fun u=>if_pos h;rw[show t+1+s=(t+s)+1 by omega,e,e,aI3 t]
  ·rw[MO h,MO h];exact(MO h).symm
theorem aSc{ls:List Int}{n:Nat}:∃i,midS ls n i 0 [[]]=(i,midG ls n)/\¬midT n i (midG ls n)/\i<=(midG ls n).length/\∀t,t<=i->(midS ls n t 0 [[]]).2.length<=(midG ls n).length:=by
 obtain⟨p,h1,h2⟩:=aJV (ls:=ls) n (Ab _);have h0:=h2 0;rw[Bv]at h0;have h0:midS ls n p.length 0 [[]]=(p.length,midG ls n):=h0;refine⟨p.length,h0,?_,by rw[h1,Af];omega,fun t ht=> ?_⟩
 ·rintro⟨h3,h4⟩;rw[Aa,Ad h3]at h4;have h4:((midG ls n)[p.length]).length<n:=h4
  have h5:(midG ls n)[p.length]∈lvG ls n:=by
   have e:(midG ls n)[p.length]? =(lvG ls n)[0]?:=by
    rw[h1,Bn (Ab _),Bh]
   rw[Ad h3]at e;exact Bo e.symm
  have:=(IN n _ h5).1;omega
 ·have:=aI3 (ls:=ls) (n:=n) (s:=p.length-t) t 0 [[]];rw[show t+(p.length-t)=p.length by omega,h0]at this;have h3:=aL6 (ls:=ls) (n:=n) (p.length-t) (midS ls n t 0 [[]]).1 (midS ls n t 0 [[]]).2;rw[<-this]at h3;exact h3
theorem VQ(hn:2<=n)(hL:2^60<=L){ls:List Int}(hls:∀l∈ls,0<=l/\l<=5)(hl:ls.length<=6){x:Int}{i:Nat}{w:Str}(hw:w.length<=100000){k:KE R}:∀(j q m:Nat) (o:List Str) (len:Nat) (hq:q+j=ls.length) (hm:j<m) (hlen:len=o.length) (ho:o.length+j<=100000) (hi:i<o.length) (hg:o.getD i []=w),
  aR env (aA env L n) L 0 [] Bz11 (kQ 1) (U1 (Z1 (U2 (Z4 (Z1 (U32 (U4 (U2 ([]))))))))) m (Y1 (nI x::Y2 (.d .nils::.sl 0 0 0 len::.d (.ivs ls.length (ints ls))::nI i::nI q::Y32 (Y4 (Y2 ([])))))) [.arr (aM o) 1 0] k
  =k (.exit 2) (Y1 (nI x::Y2 (.d .nils::.sl 0 0 0 (o++chG (ls.drop q) w).length::.d (.ivs ls.length (ints ls))::nI i::nI (ls.length)::Y32 (Y4 (Y2 ([])))))) [.arr (aM (o++chG (ls.drop q) w)) 1 0]:=by
 intro j
 induction j with
 |zero=>
  intro q m o len hq hm hlen ho hi hg;obtain _|m:=m;omega;obtain rfl:q=ls.length:=om;subst hlen;have e:o++chG (ls.drop ls.length) w=o:=by simp[chG]
  rw[e]
  simp-implicitDefEqProofs (maxSteps:=9^7) (disch:=try exact Dz) only[↓DN,↓kRet,UP,simprocAttr,Ah,DL,yY,Tryz.f43]
 |succ j ih=>
  intro q m o len hq hm hlen ho hi hg;obtain _|m:=m;omega;subst hlen;have hk:q<ls.length:=om;have hc:(q:Int)<ls.length:=om;have hq0:(0:Int)<=q:=om;have hi0:(0:Int)<=i:=om;have hi1:(i:Int)<o.length:=om;have hmem:ls.getD q 0∈ls:=by rw[Aa,Ad hk];exact At _
  obtain⟨b0,b1⟩:=hls _ hmem
  have e:o++chG (ls.drop q) w=(o++[w++[cN (ls.getD q 0)]])++chG (ls.drop (q+1)) w:=by
   rw[cB hk (d:=0)];simp[chG]
  have hg2:(o++[w++[cN (ls.getD q 0)]]).getD i []=w:=by
   rw[Aa,Bc hi,<-Aa,hg]
  have ih':=ih (q+1) m (o++[w++[cN (ls.getD q 0)]]) (o.length+1) om om sm (by simp;omega) (by simp;omega) hg2;rw[cs1 q]at ih';have kc_t:=@NC L (ls.getD q 0) b0 b1;rw[e];clear ih e hg2 hmem hls;generalize hb:ls.getD q 0=b at *;generalize o++[w++[cN b]]++chG (ls.drop (q+1)) w=z at *
  simp-implicitDefEqProofs (maxSteps:=9^7) (disch:=try exact Dz) only[↓DN,↓kRet,UP,simprocAttr,SE,hc,hq0,hi0,hi1,hb,hg,↓kc_t,lT,Bh,↓ih',DL,yY,Tryz.f43]
theorem XQ(hn:2<=n)(hL:2^60<=L){ls:List Int}(hls:∀l∈ls,0<=l/\l<=5)(hl:ls.length<=6){x:Nat}(hx:x<=1000){k:KE R}:∀(j i m:Nat) (o:List Str) (len:Nat) (hm:j<m) (hlen:len=o.length) (ho:o.length<=90000) (hz:∀t,t<=j->(midS ls x t i o).2.length<=90000) (hstop:¬midT x (midS ls x j i o).1 (midS ls x j i o).2) (hi:i<=90000),
  aR env (aA env L n) L 0 [] Bz11 (kQ 0) Bz47 m (Y1 (nI x::Y2 (.d .nils::.sl 0 0 0 len::.d (.ivs ls.length (ints ls))::nI i::Y32 (Y4 (Y2 (Y1 ([]))))))) [.arr (aM o) 1 0] k
  =k (.exit 0) (Y1 (nI x::Y2 (.d .nils::.sl 0 0 0 (midS ls x j i o).2.length::.d (.ivs ls.length (ints ls))::nI ((midS ls x j i o).1:Int)::Y32 (Y4 (Y2 (Y1 ([]))))))) [.arr (aM (midS ls x j i o).2) 1 0]:=by
 have last:∀(i m:Nat) (o:List Str) (len:Nat),¬midT x i o->0<m->len=o.length->aR env (aA env L n) L 0 [] Bz11 (kQ 0) Bz47 m (Y1 (nI x::Y2 (.d .nils::.sl 0 0 0 len::.d (.ivs ls.length (ints ls))::nI i::Y32 (Y4 (Y2 (Y1 ([]))))))) [.arr (aM o) 1 0] k
  =k (.exit 0) (Y1 (nI x::Y2 (.d .nils::.sl 0 0 0 o.length::.d (.ivs ls.length (ints ls))::nI i::Y32 (Y4 (Y2 (Y1 ([]))))))) [.arr (aM o) 1 0]:=by
  intro i m o len hs hm hlen;obtain _|m:=m;omega;subst hlen;have hi0:(0:Int)<=i:=om
  by_cases hc:(i:Int)<o.length
  ·have hw:¬(((o.getD i []).length:Nat):Int)<x:=by
    intro h;exact hs ⟨by omega,by omega⟩
   simp-implicitDefEqProofs (maxSteps:=9^7) (disch:=try exact Dz) only[↓DN,↓kRet,UP,simprocAttr,SE,hc,hi0,hw,sE,rE,Tryz.f43]
  ·simp-implicitDefEqProofs (maxSteps:=9^7) (disch:=try exact Dz) only[↓DN,↓kRet,UP,simprocAttr,hc,sE,rE,Tryz.f43]
 intro j
 induction j with
 |zero=>
  intro i m o len hm hlen ho hz hstop hi;exact last i m o len hstop hm hlen
 |succ j ih=>
  intro i m o len hm hlen ho hz hstop hi
  by_cases hT:midT x i o
  ·have e:∀t,midS ls x (t+1) i o=midS ls x t (i+1) (o++chG ls (o.getD i [])):=fun t=>by
    exact aMo hT
   have z1:=hz 1 om;rw[e 0]at z1;have z1:(o++chG ls (o.getD i [])).length<=90000:=z1;have ih':=ih (i+1) (m-1) (o++chG ls (o.getD i [])) _ om rfl z1 (fun t ht=>by rw[<-e];exact hz (t+1) om) (by rw[<-e];exact hstop) (by have:=hT.1;omega);rw[cs1 i]at ih';rw[e j];obtain _|m:=m;omega;subst hlen;have hc:(i:Int)<o.length:=by have:=hT.1;omega
   have hi0:(0:Int)<=i:=om;have hw:(((o.getD i []).length:Nat):Int)<x:=by have:=hT.2;omega
   have loop_c:=fun {R n k} hn=> @VQ R L n hn hL ls hls hl (x:Nat) i (o.getD i []) om k ls.length 0 L o o.length om om rfl om om rfl;rw[Ba]at loop_c;simp only[Aq,Nat.add_sub_cancel]at loop_c ih';clear ih last hz hstop e z1 hT;generalize midS ls x j (i+1) (o++chG ls (o.getD i []))=z at *;generalize o++chG ls (o.getD i [])=o2 at *
   simp-implicitDefEqProofs (maxSteps:=9^7) (disch:=try exact Dz) only[↓DN,↓kAsg,↓kRet,UP,simprocAttr,SE,hc,hi0,hw,↓loop_c,↓ih',sE,rE,Tryz.f43]
  ·rw[MO hT];exact last i m o len hT om hlen
theorem O7(hn:3<=n)(al:Int)(x:Nat)(hx:x<=3)(hL:2^60<=L):aA env L n 43 [nI al,nI x] []=some (.d (.ivs (midG (aB al) x).length (aM (midG (aB al) x))),[]):=by
 obtain⟨i,h1,h2,h3,h4⟩:=aSc (ls:=aB al) (n:=x);have hl:=bQ al;have hsm:=FZ hl x hx;have loop_c:=fun {R n k} hn=> @XQ R L n hn hL (aB al) cK hl x om k i 0 L [[]] 1 om rfl sm (fun t ht=>by have:=h4 t ht;omega) (by rw[h1];exact h2) om;rw[h1]at loop_c;have e1:aM [[]]=[.str []]:=rfl;rw[e1]at loop_c;simp only[Aq]at loop_c;clear h1 h2 h3 h4;generalize midG (aB al) x=w at *;generalize(i:Int)=i at *;have e4:(aM w).take w.length=aM w:=gG (Ab _);obtain _|n:=n;omega
 simp-implicitDefEqProofs (maxSteps:=9^7) (disch:=try exact Dz) only[↓DN,↓kAsg,↓kRet,UP,simprocAttr,↓fV,SE,e4,↓loop_c,aE3,TB,Tryz.f43]
theorem aFF:type_of% fun {L} al x hx hL=>ks fun hn=> @O7 L _ hn al x hx hL:=fun {L} al x hx hL=>ks fun hn=> @O7 L _ hn al x hx hL
theorem LH(hn:3<=n)(v w:List UInt8)(hv:dQ v=true)(hw:dQ w=true)(hL:2^60<=L):aA env L n 100 [.d (.str v),.d (.str w)] []=some (.d (.bool (decide (cmpX v w<0))),[]):=by
 have e:=BD (x:=v) (y:=w);have bv:v.length<=50000:=by unfold dQ at hv;simp only[As,decide_eq_true_eq]at hv;exact hv.1
 have bw:w.length<=50000:=by unfold dQ at hw;simp only[As,decide_eq_true_eq]at hw;exact hw.1
 by_cases h1:(v.length:Int)<w.length
 ·rw[decide_eq_true (e.2 (.inl om))];obtain _|n:=n;omega
  simp-implicitDefEqProofs (maxSteps:=9^7) (disch:=try exact Dz) only[↓DN,↓kAsg,↓kRet,UP,simprocAttr,↓tR,hv,hw,h1,zB,tQ,Tryz.f100]
 ·by_cases h2:(v.length:Int)=w.length
  ·have e2:decide (cmpX v w<0)=Op.bytesLess v w:=by
    cases hb:Op.bytesLess v w with
    |true=>exact decide_eq_true (e.2 (.inr ⟨by omega,hb⟩))
    |false=>
     refine decide_eq_false fun h=> ?_
     rcases e.1 h with h|⟨_,h⟩
     ·omega
     ·rw[hb]at h;cases h
   rw[e2];obtain _|n:=n;omega
   simp-implicitDefEqProofs (maxSteps:=9^7) (disch:=try exact Dz) only[↓DN,↓kAsg,↓kRet,UP,simprocAttr,↓tR,hv,hw,h2,Ah,zB,tQ,Tryz.f100]
  ·rw[decide_eq_false fun h=>by rcases e.1 h with h|⟨h,_⟩<;>omega];obtain _|n:=n;omega
   simp-implicitDefEqProofs (maxSteps:=9^7) (disch:=try exact Dz) only[↓DN,↓kAsg,↓kRet,UP,simprocAttr,↓tR,hv,hw,h1,h2,zB,tQ,Tryz.f100]
theorem aDu:type_of% fun {L} v w hv hw hL=>ks fun hn=> @LH L _ hn v w hv hw hL:=fun {L} v w hv hw hL=>ks fun hn=> @LH L _ hn v w hv hw hL
theorem aC1(hn:4<=n)(hL:2^60<=L){l:List Str}{w:Str}(hs:oI l)(hw:dQ w=true)(hok:∀x∈l,dQ x=true)(hl:l.length<=10000){k:KE R}:∀(j lo hi m:Nat) (hj:hi-lo<=j) (hm:j<m) (h1:lo<=bC l w) (h2:bC l w<=hi) (h3:hi<=l.length),
  aR env (aA env L n) L 0 [] Bz60 (EJ 0) (Z2 (U2 (Z2 (Z1 (U16 (U4 ([]))))))) m (.d (.ivs l.length (aM l))::.d (.str w)::Y2 (nI 0::nI lo::nI hi::Y16 (Y4 ([])))) [] k
  =k (.exit 0) (.d (.ivs l.length (aM l))::.d (.str w)::Y2 (nI 0::nI (bC l w:Int)::nI (bC l w:Int)::Y16 (Y4 ([])))) []:=by
 intro j
 induction j with
 |zero=>
  intro lo hi m hj hm h1 h2 h3;obtain _|m:=m;omega;obtain rfl:lo=bC l w:=om;obtain rfl:hi=bC l w:=om
  simp-implicitDefEqProofs (maxSteps:=9^7) (disch:=try exact Dz) only[↓DN,↓kRet,UP,simprocAttr,Ah,m5,nY,Tryz.f78]
 |succ j ih=>
  intro lo hi m hj hm h1 h2 h3;obtain _|m:=m;omega
  by_cases hc:(lo:Int)<hi
  ·obtain⟨mid,hmid⟩:∃mid:Nat,mid=(lo+hi)/2:=⟨_,rfl⟩
   have e1:((lo:Int)+(hi:Int)).tdiv 2=(mid:Int):=by
    rw[Ep om];omega
   have hk:mid<l.length:=om;have hm1:(mid:Int)<l.length:=om;have hm0:(0:Int)<=mid:=om
   have hx:dQ (l.getD mid [])=true:=by
    rw[Aa,Ad hk];exact hok _ (At _)
   have kc_b:=@aDu L (l.getD mid []) w hx hw hL;have hp:=xJ hs w mid hk;have hg:l[mid]=l.getD mid []:=by rw[Aa,Ad hk];rfl
   rw[hg]at hp;have hlo:(lo:Int)<=10000:=om;have hhi:(hi:Int)<=10000:=om
   by_cases hb:cmpX (l.getD mid []) w<0
   ·have ih':=ih (mid+1) hi m om om (by have:=hp.1 hb;omega) h2 h3;rw[cs1 mid]at ih';rw[decide_eq_true hb]at kc_b;clear ih hok hp hg hb hx hs;generalize hgx:l.getD mid []=x at *
    simp-implicitDefEqProofs (maxSteps:=9^7) (disch:=try exact Dz) only[↓DN,↓kRet,UP,simprocAttr,SE,hc,e1,hm1,hm0,hgx,↓kc_b,↓ih',m5,nY,Tryz.f78]
   ·have ih':=ih lo mid m om om h1 (by have:=mt hp.2 hb;omega) om;rw[decide_eq_false hb]at kc_b;clear ih hok hp hg hb hx hs;generalize hgx:l.getD mid []=x at *
    simp-implicitDefEqProofs (maxSteps:=9^7) (disch:=try exact Dz) only[↓DN,↓kRet,UP,simprocAttr,SE,hc,e1,hm1,hm0,hgx,↓kc_b,↓ih',m5,nY,Tryz.f78]
  ·obtain rfl:lo=bC l w:=om;obtain rfl:hi=bC l w:=om;clear ih
   simp-implicitDefEqProofs (maxSteps:=9^7) (disch:=try exact Dz) only[↓DN,↓kRet,UP,simprocAttr,hc,m5,nY,Tryz.f78]
theorem S8(hn:5<=n)(l:List Str)(w:List UInt8)(hs:oI l)(hw:dQ w=true)(hok:∀x∈l,dQ x=true)(hl:l.length<=10000)(hL:2^60<=L):aA env L n 78 [.d (.ivs l.length (aM l)),.d (.str w)] []=some (nI (bC l w),[]):=by
 have loop_c:=fun {R n k} hn=> @aC1 R L n hn hL l w hs hw hok hl k l.length 0 l.length L om om om aFP om;simp only[Aq]at loop_c;obtain _|n:=n;omega
 simp-implicitDefEqProofs (maxSteps:=9^7) (disch:=try exact Dz) only[↓DN,↓kAsg,↓kRet,UP,simprocAttr,↓loop_c,aH5,UF,Tryz.f78]
theorem aH3:type_of% fun {L} l w hs hw hok hl hL=>kt fun hn=> @S8 L _ hn l w hs hw hok hl hL:=fun {L} l w hs hw hok hl hL=>kt fun hn=> @S8 L _ hn l w hs hw hok hl hL
theorem yH{L:Nat}{id0 g0 o0 len0:Nat}{w:List UInt8}:KV L 78 [.sl id0 g0 o0 len0,.d (.str w)]:=fun _ _ _ _=>eA x7
theorem aHM(hn:1<=n){l:List Str}{w:Str}{p:Nat}(hl:l.length<=10000)(hp:p<=l.length){k:KE R}:∀(j i m:Nat) (y:Str) (o:List Str) (len:Nat) (hi:i=p+j) (hil:i<=l.length) (hm:j<m) (ho:o=l.take i++y::l.drop i) (hlen:len=l.length+1),
  aR env (aA env L n) L (1) [] Bz59 (M5 0) (Z2 (U2 (Z2 (Z1 (U32 (U8 ([]))))))) m (.sl 0 1 0 len::.d (.str w)::Y2 (.d .nils::nI p::nI i::Y32 (Y8 ([])))) [.arr (aM o) 1 1] k
  =k (.exit 0) (.sl 0 1 0 len::.d (.str w)::Y2 (.d .nils::nI p::nI p::Y32 (Y8 ([])))) [.arr (aM (l.take p++(if j=0 then y else l.getD p [])::l.drop p)) 1 1]:=by
 intro j
 induction j with
 |zero=>
  intro i m y o len hi hil hm ho hlen;obtain _|m:=m;omega;obtain rfl:i=p:=om;rw[if_pos rfl,<-ho]
  simp-implicitDefEqProofs (maxSteps:=9^7) (disch:=try exact Dz) only[↓DN,↓kRet,UP,simprocAttr,Ah,MN,JI,Tryz.f44]
 |succ j ih=>
  intro i m y o len hi hil hm ho hlen;obtain _|m:=m;omega;have hc:(p:Int)<i:=om;have hi0:(0:Int)<=i:=om;have hi1:(0:Int)<=(i:Int)-1:=om;have hib:(i:Int)<=10000:=om;have hol:o.length=l.length+1:=by rw[ho,Af,Bk,Ae,Cf];omega
  have hlo:len=o.length:=om;have hio:i<o.length:=om;have hio1:(i:Int)<o.length:=om;have hio2:(i:Int)-1<o.length:=om;have e1:((i:Int)-1).toNat=i-1:=om
  have hg:o.getD (i-1) []=l.getD (i-1) []:=by
   rw[ho,Aa,Bc (by rw[Bk];omega),Cz,if_pos om,<-Aa]
  have hd:l.drop (i-1)=l.getD (i-1) []::l.drop i:=by
   rw[cB (i:=i-1) om (d:=[]),show i-1+1=i by omega]
  have hset:o.set i (l.getD (i-1) [])=l.take (i-1)++l.getD (i-1) []::l.drop (i-1):=by
   rw[ho,Do _ _ (by rw[Bk];omega),show i-(l.take i).length=0 by rw[Bk];omega,Ci,hd]
   have:l.take i=l.take (i-1)++[l.getD (i-1) []]:=by
    obtain⟨q,rfl⟩:∃q,i=q+1:=⟨i-1,by omega⟩
    rw[Nat.add_sub_cancel,De,Ad om,Aa,Ad om];rfl
   rw[this,Al];rfl
  have ih':=ih (i-1) m (l.getD (i-1) []) (o.set i (l.getD (i-1) [])) len om om om hset hlen;rw[show((i-1:Nat):Int)=(i:Int)-1 by omega]at ih'
  have hy:(if j=0 then l.getD (i-1) []else l.getD p [])=l.getD p []:=by
   split
   ·rw[show i-1=p by omega]
   ·rfl
  rw[hy]at ih';rw[if_neg om];clear ih hd hset hy ho;generalize l.take p++l.getD p []::l.drop p=z at *;generalize hgx:l.getD (i-1) []=x at *
  simp-implicitDefEqProofs (maxSteps:=9^7) (disch:=try exact Dz) only[↓DN,↓kRet,UP,simprocAttr,SE,hc,hi0,hi1,e1,hg,↓aEU,↓ih',MN,JI,Tryz.f44]
theorem aKM(hn:6<=n)(hL:2^60<=L)(l:List Str)(w:Str)(hs:oI l)(hw:dQ w=true)(hok:∀x∈l,dQ x=true)(hl:l.length<=10000):aA env L n 44 [.sl 0 0 0 l.length,.d (.str w)] [.arr (aM l) 1 0]=some (.sl 0 (if w∈l then 0 else 1) 0 (ordW l w).length,[.arr (aM (ordW l w)) 1 (if w∈l then 0 else 1)]):=by
 have kl_p:=@aH3 L l w hs hw hok hl hL;have hat:=aOu hs w;have hle:=aFP (ws:=l) (w:=w);have hp0:(0:Int)<=(bC l w:Nat):=om;have ht:(aM l).take l.length=aM l:=gG (Ab _);unfold ordW
 by_cases hin:w∈l
 ·obtain⟨h1,h2⟩:=hat.2 hin;have h1:((bC l w:Nat):Int)<l.length:=om;simp only[if_pos hin];clear hat hok hs;generalize bC l w=p at *;obtain _|n:=n;omega
  simp-implicitDefEqProofs (maxSteps:=9^7) (disch:=try exact Dz) only[↓DN,↓kAsg,↓kRet,UP,simprocAttr,↓yH,SE,↓kl_p,h1,h2,hp0,NM,F0,Tryz.f44]
 ·simp only[if_neg hin]
  have hlen:(l.take (bC l w)++w::l.drop (bC l w)).length=l.length+1:=by
   rw[Af,Bk,Ae,Cf];omega
  rw[hlen];have loop_c:=fun {R n k} hn=> @aHM R L n hn l w (bC l w) hl hle k (l.length-bC l w) l.length L [] (l++[[]]) (l.length+1) om om om (by rw[Cv,Bw]) rfl
  have hset:∀y,(l.take (bC l w)++y::l.drop (bC l w)).set (bC l w) w=l.take (bC l w)++w::l.drop (bC l w):=by
   intro y;rw[Do _ _ (by rw[Bk];omega),show bC l w-(l.take (bC l w)).length=0 by rw[Bk];omega];rfl
  have hyl:∀y,(l.take (bC l w)++y::l.drop (bC l w)).length=l.length+1:=by
   intro y;rw[Af,Bk,Ae,Cf];omega
  have hset:=hset (if l.length-bC l w=0 then []else l.getD (bC l w) []);have hyl:=hyl (if l.length-bC l w=0 then []else l.getD (bC l w) []);have h3:(l.length:Int)+1-1=l.length:=om;have h4:((l.length+1:Nat):Int)-1=l.length:=om;have hpl:(bC l w:Nat)<l.length+1:=om;have hpl2:((bC l w:Nat):Int)<(l.length+1:Nat):=om
  by_cases h1:((bC l w:Nat):Int)<l.length
  ·have h2:(l.getD (bC l w) []==w)=false:=by
    have:¬l.getD (bC l w) []=w:=fun h=>hin (hat.1 ⟨by omega,h⟩)
    simpa using this
   clear hat hok hs hlen;generalize l.take (bC l w)++(if l.length-bC l w=0 then []else l.getD (bC l w) [])::l.drop (bC l w)=z at *;generalize l.take (bC l w)++w::l.drop (bC l w)=z2 at *;generalize bC l w=p at *;obtain _|n:=n;omega
   simp-implicitDefEqProofs (maxSteps:=9^7) (disch:=try exact Dz) only[↓DN,↓kAsg,↓kRet,UP,simprocAttr,↓yH,SE,↓kl_p,h1,h2,h4,hp0,ht,hpl2,hset,lT,↓aEU,↓loop_c,NM,F0,Tryz.f44]
  ·clear hat hok hs hlen;generalize l.take (bC l w)++(if l.length-bC l w=0 then []else l.getD (bC l w) [])::l.drop (bC l w)=z at *;generalize l.take (bC l w)++w::l.drop (bC l w)=z2 at *;generalize bC l w=p at *;obtain _|n:=n;omega
   simp-implicitDefEqProofs (maxSteps:=9^7) (disch:=try exact Dz) only[↓DN,↓kAsg,↓kRet,UP,simprocAttr,↓yH,SE,↓kl_p,h1,h4,hp0,ht,hpl2,hset,lT,↓aEU,↓loop_c,NM,F0,Tryz.f44]
structure Sok(o:List Str):Prop where
 s:oI o
 n:o.length<=3000
 w:∀x∈o,dQ x=true
theorem aBJ{f:Str->List Str->Bool×List Str}{ws:List Str}{P:List Str->Prop}(hf:∀w∈ws,∀o,P o->(f w o).1=true->P (f w o).2):∀(j q:Nat) (o:List Str),q+j=ws.length->P o->(run3 f ws j q o).1=true->P (run3 f ws j q o).2.2
 |0,_,_,_,ho,_=>ho
 |j+1,q,o,hq,ho,h=>by
  have hk:q<ws.length:=om;have hm:ws.getD q []∈ws:=by rw[Aa,Ad hk];exact At _
  cases hb:(f (ws.getD q []) o).1 with
  |false=>rw[GW hb]at h;cases h
  |true=>
   rw[BI hb]at h|-;exact aBJ hf j (q+1) _ om (hf _ hm o ho hb) h
theorem aQb{o:List Str}{w x:Str}(h:x∈ordW o w):x∈o\/x=w:=aJa.1 ((aBb (List.Perm.refl o) w).mem_iff.1 h)
theorem aI9{c m:Str}{ends:List Str}(hw:∀e∈ends,dQ (c++m++e)=true):∀e∈ends,∀o,Sok o->(endS c m e o).1=true->Sok (endS c m e o).2:=by
 intro e he o ho h;unfold endS at h|-;simp only[Dl,decide_eq_false_iff_not]at h;refine⟨aF4 ho.s _,Nat.le_of_not_lt h,fun x hx=> ?_⟩
 rcases aQb hx with hx|rfl
 ·exact ho.w x hx
 ·exact hw e he
theorem aKl{c:Str}{mids ends:List Str}(hw:∀m∈mids,∀e∈ends,dQ (c++m++e)=true):∀m∈mids,∀o,Sok o->(midZ c ends m o).1=true->Sok (midZ c ends m o).2:=
 fun m hm o ho h=>aBJ (aI9 (hw m hm)) ends.length 0 o om ho h
theorem d7{l:List Str}{k:Nat}(h:k<l.length):l.getD k []∈l:=by
 rw[Aa,Ad h];exact At _
structure Parts(cov mids ends:List Str):Prop where
 w:∀c∈cov,∀m∈mids,∀e∈ends,dQ (c++m++e)=true
 c:∀c∈cov,c.length<=1000
 m:∀c∈mids,c.length<=1000
 e:∀c∈ends,c.length<=1000
 nc:cov.length<=1000
 nm:mids.length<=1000
 ne:ends.length<=1000
theorem aS6{k:KA R}(hn:6<=n)(hL:2^60<=L)(o:List Str)(w:Str)(ho:Sok o)(hw:dQ w=true):aW env (aA env L n) [.arr (aM o) 1 0] 44 [.sl 0 0 0 o.length,.d (.str w)] k=k (.sl 0 (if w∈o then 0 else 1) 0 (ordW o w).length) [.arr (aM (ordW o w)) 1 (if w∈o then 0 else 1)]:=
 QB (h:=[.arr (aM o) 1 0]) (k:=k) (id:=0) (g2:=if w∈o then 0 else 1) (len:=(ordW o w).length) (cs2:=aM (ordW o w)) (e2:=1) rfl rfl E1 (aKM hn hL o w ho.s hw ho.w (by have:=ho.n;omega))
theorem U0(hn:7<=n)(hL:2^60<=L){cov mids ends:List Str}(hP:Parts cov mids ends){i q:Nat}(hi:i<cov.length)(hq:q<mids.length){k:KE R}:∀(j p m:Nat) (o:List Str) (len:Nat) (hp:p+j=ends.length) (hm:j<m) (hlen:len=o.length) (ho:Sok o),
  aR env (aA env L n) L 0 [] Bz10 (iW 2) (U4 (Z8 (Z1 (U32 (U16 (U8 (U2 (U1 ([]))))))))) m (Y4 (.d .nils::.d (.bool false)::.d (.ivs cov.length (aM cov))::.d (.ivs ends.length (aM ends))::.d (.ivs mids.length (aM mids))::.sl 0 0 0 len::nI i::nI q::nI p::Y32 (Y16 (Y8 (Y2 (Y1 ([]))))))) [.arr (aM o) 1 0] k
  =k (if(run3 (endS (cov.getD i []) (mids.getD q [])) ends j p o).1=true then .exit 4 else .ret) (Y4 (.d .nils::.d (.bool false)::.d (.ivs cov.length (aM cov))::.d (.ivs ends.length (aM ends))::.d (.ivs mids.length (aM mids))::.sl 0 0 0 (run3 (endS (cov.getD i []) (mids.getD q [])) ends j p o).2.2.length::nI i::nI q::nI ((run3 (endS (cov.getD i []) (mids.getD q [])) ends j p o).2.1:Int)::Y32 (Y16 (Y8 (Y2 (Y1 ([]))))))) [.arr (aM (run3 (endS (cov.getD i []) (mids.getD q [])) ends j p o).2.2) 1 0]:=by
 intro j
 induction j with
 |zero=>
  intro p m o len hp hm hlen ho;obtain _|m:=m;omega;obtain rfl:p=ends.length:=om;subst hlen;have e:∀f,run3 f ends 0 ends.length o=(true,ends.length,o):=fun _=>rfl;rw[e];simp only[if_true]
  simp-implicitDefEqProofs (maxSteps:=9^7) (disch:=try exact Dz) only[↓DN,↓kRet,UP,simprocAttr,Ah,sA,qT,Tryz.f18]
 |succ j ih=>
  intro p m o len hp hm hlen ho;obtain _|m:=m;omega;subst hlen;have hpe:p<ends.length:=om;have hc1:(p:Int)<ends.length:=om;have hc2:(i:Int)<cov.length:=om;have hc3:(q:Int)<mids.length:=om;have hp0:(0:Int)<=p:=om;have hi0:(0:Int)<=i:=om;have hq0:(0:Int)<=q:=om;have hw:=hP.w _ (d7 hi) _ (d7 hq) _ (d7 hpe);have hcl:=hP.c _ (d7 hi);have hml:=hP.m _ (d7 hq);have hel:=hP.e _ (d7 hpe);have hcm:(cov.getD i []++mids.getD q []).length<=2000:=by rw[Af];omega
  have hinv:=aI9 (ends:=ends) (hP.w _ (d7 hi) _ (d7 hq)) _ (d7 hpe) o ho;have hol:=ho.n;have hne:=hP.ne;have kc_p:=fun {R n k} hn=> @aS6 R L n k hn hL o (cov.getD i []++mids.getD q []++ends.getD p []) ho hw;have hb:(endS (cov.getD i []) (mids.getD q []) (ends.getD p []) o)=(!decide (3000<(ordW o (cov.getD i []++mids.getD q []++ends.getD p [])).length),ordW o (cov.getD i []++mids.getD q []++ends.getD p [])):=rfl;have hz:=(aQB (ws:=o) (w:=cov.getD i []++mids.getD q []++ends.getD p [])).2
  by_cases hb1:3000<(ordW o (cov.getD i []++mids.getD q []++ends.getD p [])).length
  ·have hb2:(3000:Int)<(ordW o (cov.getD i []++mids.getD q []++ends.getD p [])).length:=om;rw[GW (by rw[hb,decide_eq_true hb1];rfl),hb];simp only[Ak,if_false];clear ih hinv hb hw ho hP;generalize(if cov.getD i []++mids.getD q []++ends.getD p []∈o then 0 else 1)=g at *;generalize ordW o (cov.getD i []++mids.getD q []++ends.getD p [])=o2 at *;generalize hci:cov.getD i []=c at *;generalize hmi:mids.getD q []=mm at *;generalize hei:ends.getD p []=e at *
   simp-implicitDefEqProofs (maxSteps:=9^7) (disch:=try exact Dz) only[↓DN,↓kAsg,↓kRet,UP,simprocAttr,SE,hc1,hc2,hc3,hp0,hi0,hq0,hb2,hci,hmi,hei,↓kc_p,Bh,sA,qT,Tryz.f18]
  ·have hb2:¬(3000:Int)<(ordW o (cov.getD i []++mids.getD q []++ends.getD p [])).length:=om;rw[BI (by rw[hb,decide_eq_false hb1];rfl),hb];have ih':=ih (p+1) m _ _ om om rfl (hinv (by rw[hb,decide_eq_false hb1];rfl));rw[hb]at ih';rw[cs1 p]at ih';simp only at ih'|-;clear ih hinv hb hw ho hP;generalize(if cov.getD i []++mids.getD q []++ends.getD p []∈o then 0 else 1)=g at *;generalize ordW o (cov.getD i []++mids.getD q []++ends.getD p [])=o2 at *;generalize run3 (endS (cov.getD i []) (mids.getD q [])) ends j (p+1) o2=z at *;generalize hci:cov.getD i []=c at *;generalize hmi:mids.getD q []=mm at *;generalize hei:ends.getD p []=e at *
   simp-implicitDefEqProofs (maxSteps:=9^7) (disch:=try exact Dz) only[↓DN,↓kRet,UP,simprocAttr,SE,hc1,hc2,hc3,hp0,hi0,hq0,hb2,hci,hmi,hei,↓kc_p,Bh,↓ih',sA,qT,Tryz.f18]
theorem XA(hn:7<=n)(hL:2^60<=L){cov mids ends:List Str}(hP:Parts cov mids ends){i:Nat}(hi:i<cov.length){k:KE R}:∀(j p m:Nat) (o:List Str) (len:Nat) (hp:p+j=mids.length) (hm:j<m) (hlen:len=o.length) (ho:Sok o),
  aR env (aA env L n) L 0 [] Bz10 (iW 1) (U4 (Z8 (U32 (U16 (U8 (U4 ([]))))))) m (Y4 (.d .nils::.d (.bool false)::.d (.ivs cov.length (aM cov))::.d (.ivs ends.length (aM ends))::.d (.ivs mids.length (aM mids))::.sl 0 0 0 len::nI i::nI p::Y32 (Y16 (Y8 (Y4 ([])))))) [.arr (aM o) 1 0] k
  =k (if(run3 (midZ (cov.getD i []) ends) mids j p o).1=true then .exit 2 else .ret) (Y4 (.d .nils::.d (.bool false)::.d (.ivs cov.length (aM cov))::.d (.ivs ends.length (aM ends))::.d (.ivs mids.length (aM mids))::.sl 0 0 0 (run3 (midZ (cov.getD i []) ends) mids j p o).2.2.length::nI i::nI ((run3 (midZ (cov.getD i []) ends) mids j p o).2.1:Int)::Y32 (Y16 (Y8 (Y4 ([])))))) [.arr (aM (run3 (midZ (cov.getD i []) ends) mids j p o).2.2) 1 0]:=by
 intro j
 induction j with
 |zero=>
  intro p m o len hp hm hlen ho;obtain _|m:=m;omega;obtain rfl:p=mids.length:=om;subst hlen;have e:∀f,run3 f mids 0 mids.length o=(true,mids.length,o):=fun _=>rfl;rw[e];simp only[if_true]
  simp-implicitDefEqProofs (maxSteps:=9^7) (disch:=try exact Dz) only[↓DN,↓kRet,UP,simprocAttr,Ah,sM,qU,Tryz.f18]
 |succ j ih=>
  intro p m o len hp hm hlen ho;obtain _|m:=m;omega;subst hlen;have hpm:p<mids.length:=om;have hc1:(p:Int)<mids.length:=om;have hmn:=hP.nm;have hne:=hP.ne;have loop_c:=fun {R n k} hn=> @U0 R L n hn hL cov mids ends hP i p hi hpm k ends.length 0 L o o.length om om rfl ho;simp only[Aq]at loop_c;have hinv:=aKl (fun m hm=>hP.w _ (d7 hi) m hm) _ (d7 hpm) o ho;have hz:midZ (cov.getD i []) ends (mids.getD p []) o=((run3 (endS (cov.getD i []) (mids.getD p [])) ends ends.length 0 o).1,(run3 (endS (cov.getD i []) (mids.getD p [])) ends ends.length 0 o).2.2):=rfl
  cases hb:(run3 (endS (cov.getD i []) (mids.getD p [])) ends ends.length 0 o).1 with
  |false=>
   rw[GW (by rw[hz,hb]),hz];rw[hb]at loop_c;simp only[Ak,if_false]at loop_c|-;clear ih hinv hz hb ho hP;generalize run3 (endS (cov.getD i []) (mids.getD p [])) ends ends.length 0 o=z at *
   simp-implicitDefEqProofs (maxSteps:=9^7) (disch:=try exact Dz) only[↓DN,↓kAsg,↓kRet,UP,simprocAttr,hc1,↓loop_c,sM,qU,Tryz.f18]
  |true=>
   rw[BI (by rw[hz,hb]),hz];have ih':=ih (p+1) m _ _ om om rfl (hinv (by rw[hz,hb]));rw[hz,cs1 p]at ih';rw[hb]at loop_c;simp only[if_true]at loop_c ih'|-;clear ih hinv hz hb ho hP;generalize run3 (endS (cov.getD i []) (mids.getD p [])) ends ends.length 0 o=z at *;generalize run3 (midZ (cov.getD i []) ends) mids j (p+1) z.2.2=z2 at *
   simp-implicitDefEqProofs (maxSteps:=9^7) (disch:=try exact Dz) only[↓DN,↓kAsg,↓kRet,UP,simprocAttr,hc1,↓loop_c,↓ih',sM,qU,Tryz.f18]
theorem VF(hn:7<=n)(hL:2^60<=L){cov mids ends:List Str}(hP:Parts cov mids ends){k:KE R}:∀(j p m:Nat) (o:List Str) (len:Nat) (hp:p+j=cov.length) (hm:j<m) (hlen:len=o.length) (ho:Sok o),
  aR env (aA env L n) L 0 [] Bz10 (iW 0) (U4 (Z4 (Z2 (Z1 (U32 (U16 (U8 (U4 (U1 ([])))))))))) m (Y4 (.d .nils::.d (.bool false)::.d (.ivs cov.length (aM cov))::.d (.ivs ends.length (aM ends))::.d (.ivs mids.length (aM mids))::.sl 0 0 0 len::nI p::Y32 (Y16 (Y8 (Y4 (Y1 ([]))))))) [.arr (aM o) 1 0] k
  =k (if(run3 (covZ mids ends) cov j p o).1=true then .exit 0 else .ret) (Y4 (.d .nils::.d (.bool false)::.d (.ivs cov.length (aM cov))::.d (.ivs ends.length (aM ends))::.d (.ivs mids.length (aM mids))::.sl 0 0 0 (run3 (covZ mids ends) cov j p o).2.2.length::nI ((run3 (covZ mids ends) cov j p o).2.1:Int)::Y32 (Y16 (Y8 (Y4 (Y1 ([]))))))) [.arr (aM (run3 (covZ mids ends) cov j p o).2.2) 1 0]:=by
 intro j
 induction j with
 |zero=>
  intro p m o len hp hm hlen ho;obtain _|m:=m;omega;obtain rfl:p=cov.length:=om;subst hlen;have e:∀f,run3 f cov 0 cov.length o=(true,cov.length,o):=fun _=>rfl;rw[e];simp only[if_true]
  simp-implicitDefEqProofs (maxSteps:=9^7) (disch:=try exact Dz) only[↓DN,↓kRet,UP,simprocAttr,Ah,sW,rP,Tryz.f18]
 |succ j ih=>
  intro p m o len hp hm hlen ho;obtain _|m:=m;omega;subst hlen;have hpm:p<cov.length:=om;have hc1:(p:Int)<cov.length:=om;have hmn:=hP.nm;have hcn:=hP.nc;have loop_c:=fun {R n k} hn=> @XA R L n hn hL cov mids ends hP p hpm k mids.length 0 L o o.length om om rfl ho;simp only[Aq]at loop_c;have hinv:(covZ mids ends (cov.getD p []) o).1=true->Sok (covZ mids ends (cov.getD p []) o).2:=aBJ (aKl (fun m hm=>hP.w _ (d7 hpm) m hm)) mids.length 0 o om ho;have hz:covZ mids ends (cov.getD p []) o=((run3 (midZ (cov.getD p []) ends) mids mids.length 0 o).1,(run3 (midZ (cov.getD p []) ends) mids mids.length 0 o).2.2):=rfl
  cases hb:(run3 (midZ (cov.getD p []) ends) mids mids.length 0 o).1 with
  |false=>
   rw[GW (by rw[hz,hb]),hz];rw[hb]at loop_c;simp only[Ak,if_false]at loop_c|-;clear ih hinv hz hb ho hP;generalize run3 (midZ (cov.getD p []) ends) mids mids.length 0 o=z at *
   simp-implicitDefEqProofs (maxSteps:=9^7) (disch:=try exact Dz) only[↓DN,↓kAsg,↓kRet,UP,simprocAttr,hc1,↓loop_c,sW,rP,Tryz.f18]
  |true=>
   rw[BI (by rw[hz,hb]),hz];have ih':=ih (p+1) m _ _ om om rfl (hinv (by rw[hz,hb]));rw[hz,cs1 p]at ih';rw[hb]at loop_c;simp only[if_true]at loop_c ih'|-;clear ih hinv hz hb ho hP;generalize run3 (midZ (cov.getD p []) ends) mids mids.length 0 o=z at *;generalize run3 (covZ mids ends) cov j (p+1) z.2.2=z2 at *
   simp-implicitDefEqProofs (maxSteps:=9^7) (disch:=try exact Dz) only[↓DN,↓kAsg,↓kRet,UP,simprocAttr,hc1,↓loop_c,↓ih',sW,rP,Tryz.f18]
def eM(a:Aut)(x:Int):Option (List Str):=if bX a.al a.nx a.ac=true/\0<=x/\x<=2 then sB (cH a) (midG (aB a.al) (x.toNat+1)) (sepW a)else none
theorem aIN{a:Aut}(h:AOK a){e:Nat}(he:e<=2):Parts (cH a) (midG (aB a.al) (e+1)) (sepW a):=by
 obtain⟨_,_,a1,a2,_⟩:=aV h;have ha:=(fW h).2.2.2;have h1:=GE h;have h2:=Q5 h;have h3:=FZ (bQ a.al) (e+1) om;exact⟨fun c hc m hm w hw=>((aKi h hc hm hw).ok ha om).2,fun c hc=>by have:=(aPl h c hc).1;omega,fun c hc=>by have:=(aPK c hc).1;omega,fun c hc=>by have:=(aPn h c hc).1;omega,by omega,by omega,by omega⟩
theorem PJ(hn:15<=n)(a:Aut)(x:Int)(hs:aY a.nx)(hac:a.ac.length<=4294967296)(hL:2^60<=L):aA env L n 18 [.agg [nI a.al,.d (.ivs a.nx.length (aG a.nx)),.d (.ivs a.ac.length (aD a.ac))],nI x] []=some (.tup [.d (.ivs ((eM a x).getD []).length (aM ((eM a x).getD []))),.d (.bool (eM a x).isSome)],[]):=by
 have hrl:=hs.1
 cases hv:bX a.al a.nx a.ac with
 |false=>
  have e:eM a x=none:=if_neg fun h=>by rw[hv]at h;cases h.1
  rw[e];simp only[Option.getD_none,Cs,Ac,kM];obtain _|n:=n;omega
  simp-implicitDefEqProofs (maxSteps:=9^7) (disch:=try exact Dz) only[↓DN,↓kAsg,↓kRet,UP,simprocAttr,↓a8,hv,n4,lP,Tryz.f18]
 |true=>
  by_cases hx0:x<0
  ·have e:eM a x=none:=if_neg fun h=>by omega
   rw[e];simp only[Option.getD_none,Cs,Ac,kM];obtain _|n:=n;omega
   simp-implicitDefEqProofs (maxSteps:=9^7) (disch:=try exact Dz) only[↓DN,↓kAsg,↓kRet,UP,simprocAttr,↓a8,hv,hx0,n4,lP,Tryz.f18]
  ·by_cases hx1:2<x
   ·have e:eM a x=none:=if_neg fun h=>by omega
    rw[e];simp only[Option.getD_none,Cs,Ac,kM];obtain _|n:=n;omega
    simp-implicitDefEqProofs (maxSteps:=9^7) (disch:=try exact Dz) only[↓DN,↓kAsg,↓kRet,UP,simprocAttr,↓a8,hv,hx0,hx1,n4,lP,Tryz.f18]
   ·obtain⟨e,rfl⟩:∃e:Nat,x=e:=⟨x.toNat,by omega⟩
    have he:e<=2:=om;have hP:=aIN (a:=a) hv he;have e1:eM a e=sB (cH a) (midG (aB a.al) (e+1)) (sepW a):=if_pos ⟨hv,by omega,by omega⟩;have e2:XX a=cH a:=by unfold XX;exact if_pos hv
    have e3:sepR a=sepW a:=by unfold sepR;exact if_pos hv
    have kc_c:=@aDh L a hs hac hL;have kc_w:=@PS L a hs hac hL;have kc_m:=@aFF L a.al (e+1) om hL;rw[e2]at kc_c;rw[e3]at kc_w;rw[cs1 e]at kc_m;have hcn:=hP.nc;have loop_c:=fun {R n k} hn=> @VF R L n hn hL _ _ _ hP k (cH a).length 0 L [] 0 om om rfl ⟨List.Pairwise.nil,by simp,by simp⟩;have hr:=QC (f:=covZ (midG (aB a.al) (e+1)) (sepW a)) (ws:=cH a) (cH a).length 0 [] om;rw[Ba,aSd]at hr;have hr:sB (cH a) (midG (aB a.al) (e+1)) (sepW a)=_:=hr;rw[e1];simp only[Aq,kM]at loop_c;generalize sB (cH a) (midG (aB a.al) (e+1)) (sepW a)=S at *;clear hP e1 e2 e3;generalize cH a=cov at *;generalize midG (aB a.al) (e+1)=mids at *;generalize sepW a=ends at *;generalize run3 (covZ mids ends) cov cov.length 0 []=z at *
    cases hb:z.1 with
    |false=>
     rw[hb,if_neg Bool.false_ne_true]at hr;rw[hr];rw[hb]at loop_c;simp only[Option.getD_none,Cs,Ac,kM,Ak,if_false]at loop_c|-;obtain _|n:=n;omega
     simp-implicitDefEqProofs (maxSteps:=9^7) (disch:=try exact Dz) only[↓DN,↓kAsg,↓kRet,UP,simprocAttr,↓a8,hv,hx0,hx1,↓kc_c,↓kc_w,↓kc_m,↓loop_c,n4,lP,Tryz.f18]
    |true=>
     rw[hb,if_pos rfl]at hr;rw[hr];rw[hb]at loop_c;simp only[Bb,Dj,if_true]at loop_c|-;have e4:(aM z.2.2).take z.2.2.length=aM z.2.2:=gG (Ab _);obtain _|n:=n;omega
     simp-implicitDefEqProofs (maxSteps:=9^7) (disch:=try exact Dz) only[↓DN,↓kAsg,↓kRet,UP,simprocAttr,↓a8,SE,hv,hx0,hx1,e4,↓kc_c,↓kc_w,↓kc_m,↓loop_c,n4,lP,Tryz.f18]
theorem aE2:type_of% fun {L} a x hs hac hL=>ks fun hn=> @PJ L _ hn a x hs hac hL:=fun {L} a x hs hac hL=>ks fun hn=> @PJ L _ hn a x hs hac hL
end Ev
end Go.Proofs.YtppffbehejpglaaGreat
