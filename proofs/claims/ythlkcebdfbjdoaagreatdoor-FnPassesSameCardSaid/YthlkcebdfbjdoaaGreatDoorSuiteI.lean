/-
  Test suites, walked: the reference's.
-/
import Derived.Test.YthlkcebdfbjdoaaGreatDoorSuiteW
import Derived.Test.YthlkcebdfbjdoaaGreatDoorSafe
import Derived.Test.YthlkcebdfbjdoaaGreatDoorAnyD
import Derived.Test.YthlkcebdfbjdoaaGreatDoorNetV
import Derived.Test.YthlkcebdfbjdoaaGreatDoorTop
import Derived.Test.YthlkcebdfbjdoaaGreatDoorMemS
set_option linter.unusedSimpArgs false
set_option linter.unusedVariables false
set_option linter.unusedSectionVars false
set_option maxRecDepth 8000
set_option maxHeartbeats 4000000
namespace Go.Proofs.YthlkcebdfbjdoaaGreatDoor
namespace Ev
section
variable{R:Type}{L n:Nat}
def midS(ls:List Int)(n:Nat):Nat->Nat->List Str->Nat×List Str
 |0,i,o=>(i,o)
 |j+1,i,o=>if i<o.length/\(o.getD i []).length<n then midS ls n j (i+1) (o++chG ls (o.getD i []))else(i,o)
def midT(n i:Nat)(o:List Str):Prop:=i<o.length/\(o.getD i []).length<n
theorem M0{ls:List Int}{n j i:Nat}{o:List Str}(h:¬midT n i o):midS ls n j i o=(i,o):=by
 cases j with
 |zero=>rfl
 |succ j=>exact if_neg h
theorem aOg{ls:List Int}{n j i:Nat}{o:List Str}(h:midT n i o):midS ls n (j+1) i o=midS ls n j (i+1) (o++chG ls (o.getD i [])):=if_pos h
theorem aLN{ls:List Int}{n:Nat}:∀(todo pre acc:List Str) (j:Nat),(∀w∈todo,w.length<n)->midS ls n (todo.length+j) pre.length (pre++todo++acc)=midS ls n j (pre.length+todo.length) (pre++todo++acc++todo.flatMap (chG ls))
 | [],pre,acc,j,_=>by simp
 |w::todo,pre,acc,j,h=>by
  have hg:(pre++w::todo++acc).getD pre.length []=w:=by simp[Aa]
  have hl:pre.length<(pre++w::todo++acc).length:=by simp only[Af,Ae];omega
  rw[show(w::todo).length+j=(todo.length+j)+1 by rw[Ae];omega,aOg ⟨hl,by rw[hg];exact h w Bf⟩,hg];have e1:pre++w::todo++acc++chG ls w=(pre++[w])++todo++(acc++chG ls w):=smp;have e2:pre.length+1=(pre++[w]).length:=by rw[Af,Cx]
  rw[e1,e2,aLN todo (pre++[w]) (acc++chG ls w) j (fun v hv=>h v (Bb _ hv))];have e3:(pre++[w]).length+todo.length=pre.length+(w::todo).length:=by rw[Af,Cx,Ae];omega
  rw[e3];simp
theorem aLJ{ls:List Int}{n:Nat}:∀(k:Nat),k<=n->∃p,midG ls k=p++lvG ls k/\∀j,midS ls n (p.length+j) 0 [[]]=midS ls n j p.length (midG ls k)
 |0,_=>⟨[],rfl,fun j=>by rw[Ac,Ag];rfl⟩
 |k+1,hk=>by
  obtain⟨p,h1,h2⟩:=aLJ (ls:=ls) (n:=n) k om;refine⟨midG ls k,rfl,fun j=> ?_⟩;rw[show(midG ls k).length=p.length+(lvG ls k).length by rw[h1,Af],Nat.add_assoc,h2,h1];have:=aLN (ls:=ls) (n:=n) (lvG ls k) p [] j (fun w hw=>by have:=(LU k w hw).1;omega);rw[Aj]at this;rw[this,<-Af,<-h1];rfl
theorem aO1{ls:List Int}{n:Nat}:∀(s i:Nat) (o:List Str),o.length<=(midS ls n s i o).2.length
 |0,_,_=>Ab _
 |s+1,i,o=>by
  unfold midS
  split
  ·have:=aO1 (ls:=ls) (n:=n) s (i+1) (o++chG ls (o.getD i []));rw[Af]at this;omega
  ·exact Ab _
theorem aLW{ls:List Int}{n s:Nat}:∀(t i:Nat) (o:List Str),midS ls n (t+s) i o=midS ls n s (midS ls n t i o).1 (midS ls n t i o).2
 |0,i,o=>by rw[Ag];rfl
 |t+1,i,o=>by
  by_cases h:midT n i o
  ·have e:∀u,midS ls n (u+1) i o=midS ls n u (i+1) (o++chG ls (o.getD i [])):=fun u=>if_pos h;rw[show t+1+s=(t+s)+1 by omega,e,e,aLW t]
  ·rw[M0 h,M0 h];exact(M0 h).symm
theorem aVV{ls:List Int}{n:Nat}:∃i,midS ls n i 0 [[]]=(i,midG ls n)/\¬midT n i (midG ls n)/\i<=(midG ls n).length/\∀t,t<=i->(midS ls n t 0 [[]]).2.length<=(midG ls n).length:=by
 obtain⟨p,h1,h2⟩:=aLJ (ls:=ls) n (Ab _);have h0:=h2 0;rw[Bx]at h0;have h0:midS ls n p.length 0 [[]]=(p.length,midG ls n):=h0;refine⟨p.length,h0,?_,by rw[h1,Af];omega,fun t ht=> ?_⟩
 ·rintro⟨h3,h4⟩;rw[Aa,Ad h3]at h4;have h4:((midG ls n)[p.length]).length<n:=h4
  have h5:(midG ls n)[p.length]∈lvG ls n:=by
   have e:(midG ls n)[p.length]? =(lvG ls n)[0]?:=by
    rw[h1,Bn (Ab _),Bj]
   rw[Ad h3]at e;exact Bq e.symm
  have:=(LU n _ h5).1;omega
 ·have:=aLW (ls:=ls) (n:=n) (s:=p.length-t) t 0 [[]];rw[show t+(p.length-t)=p.length by omega,h0]at this;have h3:=aO1 (ls:=ls) (n:=n) (p.length-t) (midS ls n t 0 [[]]).1 (midS ls n t 0 [[]]).2;rw[<-this]at h3;exact h3
theorem ZM(hn:2<=n)(hL:2^60<=L){ls:List Int}(hls:∀l∈ls,0<=l/\l<=5)(hl:ls.length<=6){x:Int}{i:Nat}{w:Str}(hw:w.length<=100000){k:KE R}:∀(j q m:Nat) (o:List Str) (len:Nat) (hq:q+j=ls.length) (hm:j<m) (hlen:len=o.length) (ho:o.length+j<=100000) (hi:i<o.length) (hg:o.getD i []=w),
  aT env (aA env L n) L 0 [] Bz14 (lF 1) (U1 (Z1 (U2 (Z4 (Z1 (U32 (U4 (U2 ([]))))))))) m (Y1 (nI x::Y2 (.d .nils::.sl 0 0 0 len::.d (.ivs ls.length (ints ls))::nI i::nI q::Y32 (Y4 (Y2 ([])))))) [.arr (aM o) 1 0] k
  =k (.exit 2) (Y1 (nI x::Y2 (.d .nils::.sl 0 0 0 (o++chG (ls.drop q) w).length::.d (.ivs ls.length (ints ls))::nI i::nI (ls.length)::Y32 (Y4 (Y2 ([])))))) [.arr (aM (o++chG (ls.drop q) w)) 1 0]:=by
 intro j
 induction j with
 |zero=>
  intro q m o len hq hm hlen ho hi hg;obtain _|m:=m;omega;obtain rfl:q=ls.length:=om;subst hlen;have e:o++chG (ls.drop ls.length) w=o:=by simp[chG]
  rw[e]
  simp-implicitDefEqProofs (maxSteps:=9^7) (disch:=try exact Dz) only[↓DN,↓kRet,UP,simprocAttr,Ah,FV,AA,Tryz.f66]
 |succ j ih=>
  intro q m o len hq hm hlen ho hi hg;obtain _|m:=m;omega;subst hlen;have hk:q<ls.length:=om;have hc:(q:Int)<ls.length:=om;have hq0:(0:Int)<=q:=om;have hi0:(0:Int)<=i:=om;have hi1:(i:Int)<o.length:=om;have hmem:ls.getD q 0∈ls:=by rw[Aa,Ad hk];exact At _
  obtain⟨b0,b1⟩:=hls _ hmem
  have e:o++chG (ls.drop q) w=(o++[w++[cM (ls.getD q 0)]])++chG (ls.drop (q+1)) w:=by
   rw[b8 hk (d:=0)];simp[chG]
  have hg2:(o++[w++[cM (ls.getD q 0)]]).getD i []=w:=by
   rw[Aa,Bc hi,<-Aa,hg]
  have ih':=ih (q+1) m (o++[w++[cM (ls.getD q 0)]]) (o.length+1) om om smp (by simp;omega) (by simp;omega) hg2;rw[cs1 q]at ih';have kc_t:=@P6 L (ls.getD q 0) b0 b1;rw[e];clear ih e hg2 hmem hls;generalize hb:ls.getD q 0=b at *;generalize o++[w++[cM b]]++chG (ls.drop (q+1)) w=z at *
  simp-implicitDefEqProofs (maxSteps:=9^7) (disch:=try exact Dz) only[↓DN,↓kRet,UP,simprocAttr,SE,hc,hq0,hi0,hi1,hb,hg,↓kc_t,mN,Bj,↓ih',FV,AA,Tryz.f66]
theorem XN(hn:2<=n)(hL:2^60<=L){ls:List Int}(hls:∀l∈ls,0<=l/\l<=5)(hl:ls.length<=6){x:Nat}(hx:x<=1000){k:KE R}:∀(j i m:Nat) (o:List Str) (len:Nat) (hm:j<m) (hlen:len=o.length) (ho:o.length<=90000) (hz:∀t,t<=j->(midS ls x t i o).2.length<=90000) (hstop:¬midT x (midS ls x j i o).1 (midS ls x j i o).2) (hi:i<=90000),
  aT env (aA env L n) L 0 [] Bz14 (lF 0) Bz51 m (Y1 (nI x::Y2 (.d .nils::.sl 0 0 0 len::.d (.ivs ls.length (ints ls))::nI i::Y32 (Y4 (Y2 (Y1 ([]))))))) [.arr (aM o) 1 0] k
  =k (.exit 0) (Y1 (nI x::Y2 (.d .nils::.sl 0 0 0 (midS ls x j i o).2.length::.d (.ivs ls.length (ints ls))::nI ((midS ls x j i o).1:Int)::Y32 (Y4 (Y2 (Y1 ([]))))))) [.arr (aM (midS ls x j i o).2) 1 0]:=by
 have last:∀(i m:Nat) (o:List Str) (len:Nat),¬midT x i o->0<m->len=o.length->aT env (aA env L n) L 0 [] Bz14 (lF 0) Bz51 m (Y1 (nI x::Y2 (.d .nils::.sl 0 0 0 len::.d (.ivs ls.length (ints ls))::nI i::Y32 (Y4 (Y2 (Y1 ([]))))))) [.arr (aM o) 1 0] k
  =k (.exit 0) (Y1 (nI x::Y2 (.d .nils::.sl 0 0 0 o.length::.d (.ivs ls.length (ints ls))::nI i::Y32 (Y4 (Y2 (Y1 ([]))))))) [.arr (aM o) 1 0]:=by
  intro i m o len hs hm hlen;obtain _|m:=m;omega;subst hlen;have hi0:(0:Int)<=i:=om
  by_cases hc:(i:Int)<o.length
  ·have hw:¬(((o.getD i []).length:Nat):Int)<x:=by
    intro h;exact hs ⟨by omega,by omega⟩
   simp-implicitDefEqProofs (maxSteps:=9^7) (disch:=try exact Dz) only[↓DN,↓kRet,UP,simprocAttr,SE,hc,hi0,hw,uC,sK,Tryz.f66]
  ·simp-implicitDefEqProofs (maxSteps:=9^7) (disch:=try exact Dz) only[↓DN,↓kRet,UP,simprocAttr,hc,uC,sK,Tryz.f66]
 intro j
 induction j with
 |zero=>
  intro i m o len hm hlen ho hz hstop hi;exact last i m o len hstop hm hlen
 |succ j ih=>
  intro i m o len hm hlen ho hz hstop hi
  by_cases hT:midT x i o
  ·have e:∀t,midS ls x (t+1) i o=midS ls x t (i+1) (o++chG ls (o.getD i [])):=fun t=>by
    exact aOg hT
   have z1:=hz 1 om;rw[e 0]at z1;have z1:(o++chG ls (o.getD i [])).length<=90000:=z1;have ih':=ih (i+1) (m-1) (o++chG ls (o.getD i [])) _ om rfl z1 (fun t ht=>by rw[<-e];exact hz (t+1) om) (by rw[<-e];exact hstop) (by have:=hT.1;omega);rw[cs1 i]at ih';rw[e j];obtain _|m:=m;omega;subst hlen;have hc:(i:Int)<o.length:=by have:=hT.1;omega
   have hi0:(0:Int)<=i:=om;have hw:(((o.getD i []).length:Nat):Int)<x:=by have:=hT.2;omega
   have loop_c:=fun {R n k} hn=> @ZM R L n hn hL ls hls hl (x:Nat) i (o.getD i []) om k ls.length 0 L o o.length om om rfl om om rfl;rw[Ay]at loop_c;simp only[Ao,Nat.add_sub_cancel]at loop_c ih';clear ih last hz hstop e z1 hT;generalize midS ls x j (i+1) (o++chG ls (o.getD i []))=z at *;generalize o++chG ls (o.getD i [])=o2 at *
   simp-implicitDefEqProofs (maxSteps:=9^7) (disch:=try exact Dz) only[↓DN,↓kAsg,↓kRet,UP,simprocAttr,SE,hc,hi0,hw,↓loop_c,↓ih',uC,sK,Tryz.f66]
  ·rw[M0 hT];exact last i m o len hT om hlen
theorem QG(hn:3<=n)(al:Int)(x:Nat)(hx:x<=3)(hL:2^60<=L):aA env L n 66 [nI al,nI x] []=some (.d (.ivs (midG (aB al) x).length (aM (midG (aB al) x))),[]):=by
 obtain⟨i,h1,h2,h3,h4⟩:=aVV (ls:=aB al) (n:=x);have hl:=bO al;have hsm:=HZ hl x hx;have loop_c:=fun {R n k} hn=> @XN R L n hn hL (aB al) cE hl x om k i 0 L [[]] 1 om rfl smp (fun t ht=>by have:=h4 t ht;omega) (by rw[h1];exact h2) om;rw[h1]at loop_c;have e1:aM [[]]=[.str []]:=rfl;rw[e1]at loop_c;simp only[Ao]at loop_c;clear h1 h2 h3 h4;generalize midG (aB al) x=w at *;generalize(i:Int)=i at *;have e4:(aM w).take w.length=aM w:=iD (Ab _);obtain _|n:=n;omega
 simp-implicitDefEqProofs (maxSteps:=9^7) (disch:=try exact Dz) only[↓DN,↓kAsg,↓kRet,UP,simprocAttr,↓fZ,SE,e4,↓loop_c,aHl,VR,Tryz.f66]
theorem aHP:type_of% fun {L} al x hx hL=>ks fun hn=> @QG L _ hn al x hx hL:=fun {L} al x hx hL=>ks fun hn=> @QG L _ hn al x hx hL
theorem NU(hn:3<=n)(v w:List UInt8)(hv:dQ v=true)(hw:dQ w=true)(hL:2^60<=L):aA env L n 163 [.d (.str v),.d (.str w)] []=some (.d (.bool (decide (cmpX v w<0))),[]):=by
 have e:=IU (x:=v) (y:=w);have bv:v.length<=50000:=by unfold dQ at hv;simp only[As,decide_eq_true_eq]at hv;exact hv.1
 have bw:w.length<=50000:=by unfold dQ at hw;simp only[As,decide_eq_true_eq]at hw;exact hw.1
 by_cases h1:(v.length:Int)<w.length
 ·rw[decide_eq_true (e.2 (.inl om))];obtain _|n:=n;omega
  simp-implicitDefEqProofs (maxSteps:=9^7) (disch:=try exact Dz) only[↓DN,↓kAsg,↓kRet,UP,simprocAttr,↓uO,hv,hw,h1,AB,uJ,Tryz.f163]
 ·by_cases h2:(v.length:Int)=w.length
  ·have e2:decide (cmpX v w<0)=Op.bytesLess v w:=by
    cases hb:Op.bytesLess v w with
    |true=>exact decide_eq_true (e.2 (.inr ⟨by omega,hb⟩))
    |false=>
     refine decide_eq_false fun h=> ?_
     rcases e.1 h with h|⟨_,h⟩
     ·omega
     ·rw[hb]at h;cases h
   rw[e2];obtain _|n:=n;omega
   simp-implicitDefEqProofs (maxSteps:=9^7) (disch:=try exact Dz) only[↓DN,↓kAsg,↓kRet,UP,simprocAttr,↓uO,hv,hw,h2,Ah,AB,uJ,Tryz.f163]
  ·rw[decide_eq_false fun h=>by rcases e.1 h with h|⟨h,_⟩<;>omega];obtain _|n:=n;omega
   simp-implicitDefEqProofs (maxSteps:=9^7) (disch:=try exact Dz) only[↓DN,↓kAsg,↓kRet,UP,simprocAttr,↓uO,hv,hw,h1,h2,AB,uJ,Tryz.f163]
theorem aEN:type_of% fun {L} v w hv hw hL=>ks fun hn=> @NU L _ hn v w hv hw hL:=fun {L} v w hv hw hL=>ks fun hn=> @NU L _ hn v w hv hw hL
theorem aFp(hn:4<=n)(hL:2^60<=L){l:List Str}{w:Str}(hs:pK l)(hw:dQ w=true)(hok:∀x∈l,dQ x=true)(hl:l.length<=10000){k:KE R}:∀(j lo hi m:Nat) (hj:hi-lo<=j) (hm:j<m) (h1:lo<=bD l w) (h2:bD l w<=hi) (h3:hi<=l.length),
  aT env (aA env L n) L 0 [] Bz63 (F4 0) (Z2 (U2 (Z2 (Z1 (U16 (U4 ([]))))))) m (.d (.ivs l.length (aM l))::.d (.str w)::Y2 (nI 0::nI lo::nI hi::Y16 (Y4 ([])))) [] k
  =k (.exit 0) (.d (.ivs l.length (aM l))::.d (.str w)::Y2 (nI 0::nI (bD l w:Int)::nI (bD l w:Int)::Y16 (Y4 ([])))) []:=by
 intro j
 induction j with
 |zero=>
  intro lo hi m hj hm h1 h2 h3;obtain _|m:=m;omega;obtain rfl:lo=bD l w:=om;obtain rfl:hi=bD l w:=om
  simp-implicitDefEqProofs (maxSteps:=9^7) (disch:=try exact Dz) only[↓DN,↓kRet,UP,simprocAttr,Ah,nT,oV,Tryz.f114]
 |succ j ih=>
  intro lo hi m hj hm h1 h2 h3;obtain _|m:=m;omega
  by_cases hc:(lo:Int)<hi
  ·obtain⟨mid,hmid⟩:∃mid:Nat,mid=(lo+hi)/2:=⟨_,rfl⟩
   have e1:((lo:Int)+(hi:Int)).tdiv 2=(mid:Int):=by
    rw[Er om];omega
   have hk:mid<l.length:=om;have hm1:(mid:Int)<l.length:=om;have hm0:(0:Int)<=mid:=om
   have hx:dQ (l.getD mid [])=true:=by
    rw[Aa,Ad hk];exact hok _ (At _)
   have kc_b:=@aEN L (l.getD mid []) w hx hw hL;have hp:=yO hs w mid hk;have hg:l[mid]=l.getD mid []:=by rw[Aa,Ad hk];rfl
   rw[hg]at hp;have hlo:(lo:Int)<=10000:=om;have hhi:(hi:Int)<=10000:=om
   by_cases hb:cmpX (l.getD mid []) w<0
   ·have ih':=ih (mid+1) hi m om om (by have:=hp.1 hb;omega) h2 h3;rw[cs1 mid]at ih';rw[decide_eq_true hb]at kc_b;clear ih hok hp hg hb hx hs;generalize hgx:l.getD mid []=x at *
    simp-implicitDefEqProofs (maxSteps:=9^7) (disch:=try exact Dz) only[↓DN,↓kRet,UP,simprocAttr,SE,hc,e1,hm1,hm0,hgx,↓kc_b,↓ih',nT,oV,Tryz.f114]
   ·have ih':=ih lo mid m om om h1 (by have:=mt hp.2 hb;omega) om;rw[decide_eq_false hb]at kc_b;clear ih hok hp hg hb hx hs;generalize hgx:l.getD mid []=x at *
    simp-implicitDefEqProofs (maxSteps:=9^7) (disch:=try exact Dz) only[↓DN,↓kRet,UP,simprocAttr,SE,hc,e1,hm1,hm0,hgx,↓kc_b,↓ih',nT,oV,Tryz.f114]
  ·obtain rfl:lo=bD l w:=om;obtain rfl:hi=bD l w:=om;clear ih
   simp-implicitDefEqProofs (maxSteps:=9^7) (disch:=try exact Dz) only[↓DN,↓kRet,UP,simprocAttr,hc,nT,oV,Tryz.f114]
theorem WL(hn:5<=n)(l:List Str)(w:List UInt8)(hs:pK l)(hw:dQ w=true)(hok:∀x∈l,dQ x=true)(hl:l.length<=10000)(hL:2^60<=L):aA env L n 114 [.d (.ivs l.length (aM l)),.d (.str w)] []=some (nI (bD l w),[]):=by
 have loop_c:=fun {R n k} hn=> @aFp R L n hn hL l w hs hw hok hl k l.length 0 l.length L om om om aIp om;simp only[Ao]at loop_c;obtain _|n:=n;omega
 simp-implicitDefEqProofs (maxSteps:=9^7) (disch:=try exact Dz) only[↓DN,↓kAsg,↓kRet,UP,simprocAttr,↓loop_c,aKj,ZO,Tryz.f114]
theorem aJ5:type_of% fun {L} l w hs hw hok hl hL=>kt fun hn=> @WL L _ hn l w hs hw hok hl hL:=fun {L} l w hs hw hok hl hL=>kt fun hn=> @WL L _ hn l w hs hw hok hl hL
theorem zL{L:Nat}{id0 g0 o0 len0:Nat}{w:List UInt8}:KV L 114 [.sl id0 g0 o0 len0,.d (.str w)]:=fun _ _ _ _=>dZ BR
theorem aJ3(hn:1<=n){l:List Str}{w:Str}{p:Nat}(hl:l.length<=10000)(hp:p<=l.length){k:KE R}:∀(j i m:Nat) (y:Str) (o:List Str) (len:Nat) (hi:i=p+j) (hil:i<=l.length) (hm:j<m) (ho:o=l.take i++y::l.drop i) (hlen:len=l.length+1),
  aT env (aA env L n) L (1) [] Bz62 (P0 0) (Z2 (U2 (Z2 (Z1 (U32 (U8 ([]))))))) m (.sl 0 1 0 len::.d (.str w)::Y2 (.d .nils::nI p::nI i::Y32 (Y8 ([])))) [.arr (aM o) 1 1] k
  =k (.exit 0) (.sl 0 1 0 len::.d (.str w)::Y2 (.d .nils::nI p::nI p::Y32 (Y8 ([])))) [.arr (aM (l.take p++(if j=0 then y else l.getD p [])::l.drop p)) 1 1]:=by
 intro j
 induction j with
 |zero=>
  intro i m y o len hi hil hm ho hlen;obtain _|m:=m;omega;obtain rfl:i=p:=om;rw[if_pos rfl,<-ho]
  simp-implicitDefEqProofs (maxSteps:=9^7) (disch:=try exact Dz) only[↓DN,↓kRet,UP,simprocAttr,Ah,NT,JC,Tryz.f67]
 |succ j ih=>
  intro i m y o len hi hil hm ho hlen;obtain _|m:=m;omega;have hc:(p:Int)<i:=om;have hi0:(0:Int)<=i:=om;have hi1:(0:Int)<=(i:Int)-1:=om;have hib:(i:Int)<=10000:=om;have hol:o.length=l.length+1:=by rw[ho,Af,Bi,Ae,Cg];omega
  have hlo:len=o.length:=om;have hio:i<o.length:=om;have hio1:(i:Int)<o.length:=om;have hio2:(i:Int)-1<o.length:=om;have e1:((i:Int)-1).toNat=i-1:=om
  have hg:o.getD (i-1) []=l.getD (i-1) []:=by
   rw[ho,Aa,Bc (by rw[Bi];omega),Dc,if_pos om,<-Aa]
  have hd:l.drop (i-1)=l.getD (i-1) []::l.drop i:=by
   rw[b8 (i:=i-1) om (d:=[]),show i-1+1=i by omega]
  have hset:o.set i (l.getD (i-1) [])=l.take (i-1)++l.getD (i-1) []::l.drop (i-1):=by
   rw[ho,Dk _ _ (by rw[Bi];omega),show i-(l.take i).length=0 by rw[Bi];omega,Ci,hd]
   have:l.take i=l.take (i-1)++[l.getD (i-1) []]:=by
    obtain⟨q,rfl⟩:∃q,i=q+1:=⟨i-1,by omega⟩
    rw[Nat.add_sub_cancel,Cw,Ad om,Aa,Ad om];rfl
   rw[this,Al];rfl
  have ih':=ih (i-1) m (l.getD (i-1) []) (o.set i (l.getD (i-1) [])) len om om om hset hlen;rw[show((i-1:Nat):Int)=(i:Int)-1 by omega]at ih'
  have hy:(if j=0 then l.getD (i-1) []else l.getD p [])=l.getD p []:=by
   split
   ·rw[show i-1=p by omega]
   ·rfl
  rw[hy]at ih';rw[if_neg om];clear ih hd hset hy ho;generalize l.take p++l.getD p []::l.drop p=z at *;generalize hgx:l.getD (i-1) []=x at *
  simp-implicitDefEqProofs (maxSteps:=9^7) (disch:=try exact Dz) only[↓DN,↓kRet,UP,simprocAttr,SE,hc,hi0,hi1,e1,hg,↓aHS,↓ih',NT,JC,Tryz.f67]
theorem aNN(hn:6<=n)(hL:2^60<=L)(l:List Str)(w:Str)(hs:pK l)(hw:dQ w=true)(hok:∀x∈l,dQ x=true)(hl:l.length<=10000):aA env L n 67 [.sl 0 0 0 l.length,.d (.str w)] [.arr (aM l) 1 0]=some (.sl 0 (if w∈l then 0 else 1) 0 (ordW l w).length,[.arr (aM (ordW l w)) 1 (if w∈l then 0 else 1)]):=by
 have kl_p:=@aJ5 L l w hs hw hok hl hL;have hat:=aQ2 hs w;have hle:=aIp (ws:=l) (w:=w);have hp0:(0:Int)<=(bD l w:Nat):=om;have ht:(aM l).take l.length=aM l:=iD (Ab _);unfold ordW
 by_cases hin:w∈l
 ·obtain⟨h1,h2⟩:=hat.2 hin;have h1:((bD l w:Nat):Int)<l.length:=om;simp only[if_pos hin];clear hat hok hs;generalize bD l w=p at *;obtain _|n:=n;omega
  simp-implicitDefEqProofs (maxSteps:=9^7) (disch:=try exact Dz) only[↓DN,↓kAsg,↓kRet,UP,simprocAttr,↓zL,SE,↓kl_p,h1,h2,hp0,PU,IQ,Tryz.f67]
 ·simp only[if_neg hin]
  have hlen:(l.take (bD l w)++w::l.drop (bD l w)).length=l.length+1:=by
   rw[Af,Bi,Ae,Cg];omega
  rw[hlen];have loop_c:=fun {R n k} hn=> @aJ3 R L n hn l w (bD l w) hl hle k (l.length-bD l w) l.length L [] (l++[[]]) (l.length+1) om om om (by rw[Ct,Bt]) rfl
  have hset:∀y,(l.take (bD l w)++y::l.drop (bD l w)).set (bD l w) w=l.take (bD l w)++w::l.drop (bD l w):=by
   intro y;rw[Dk _ _ (by rw[Bi];omega),show bD l w-(l.take (bD l w)).length=0 by rw[Bi];omega];rfl
  have hyl:∀y,(l.take (bD l w)++y::l.drop (bD l w)).length=l.length+1:=by
   intro y;rw[Af,Bi,Ae,Cg];omega
  have hset:=hset (if l.length-bD l w=0 then []else l.getD (bD l w) []);have hyl:=hyl (if l.length-bD l w=0 then []else l.getD (bD l w) []);have h3:(l.length:Int)+1-1=l.length:=om;have h4:((l.length+1:Nat):Int)-1=l.length:=om;have hpl:(bD l w:Nat)<l.length+1:=om;have hpl2:((bD l w:Nat):Int)<(l.length+1:Nat):=om
  by_cases h1:((bD l w:Nat):Int)<l.length
  ·have h2:(l.getD (bD l w) []==w)=false:=by
    have:¬l.getD (bD l w) []=w:=fun h=>hin (hat.1 ⟨by omega,h⟩)
    simpa using this
   clear hat hok hs hlen;generalize l.take (bD l w)++(if l.length-bD l w=0 then []else l.getD (bD l w) [])::l.drop (bD l w)=z at *;generalize l.take (bD l w)++w::l.drop (bD l w)=z2 at *;generalize bD l w=p at *;obtain _|n:=n;omega
   simp-implicitDefEqProofs (maxSteps:=9^7) (disch:=try exact Dz) only[↓DN,↓kAsg,↓kRet,UP,simprocAttr,↓zL,SE,↓kl_p,h1,h2,h4,hp0,ht,hpl2,hset,mN,↓aHS,↓loop_c,PU,IQ,Tryz.f67]
  ·clear hat hok hs hlen;generalize l.take (bD l w)++(if l.length-bD l w=0 then []else l.getD (bD l w) [])::l.drop (bD l w)=z at *;generalize l.take (bD l w)++w::l.drop (bD l w)=z2 at *;generalize bD l w=p at *;obtain _|n:=n;omega
   simp-implicitDefEqProofs (maxSteps:=9^7) (disch:=try exact Dz) only[↓DN,↓kAsg,↓kRet,UP,simprocAttr,↓zL,SE,↓kl_p,h1,h4,hp0,ht,hpl2,hset,mN,↓aHS,↓loop_c,PU,IQ,Tryz.f67]
structure Sok(o:List Str):Prop where
 s:pK o
 n:o.length<=3000
 w:∀x∈o,dQ x=true
theorem aDw{f:Str->List Str->Bool×List Str}{ws:List Str}{P:List Str->Prop}(hf:∀w∈ws,∀o,P o->(f w o).1=true->P (f w o).2):∀(j q:Nat) (o:List Str),q+j=ws.length->P o->(run3 f ws j q o).1=true->P (run3 f ws j q o).2.2
 |0,_,_,_,ho,_=>ho
 |j+1,q,o,hq,ho,h=>by
  have hk:q<ws.length:=om;have hm:ws.getD q []∈ws:=by rw[Aa,Ad hk];exact At _
  cases hb:(f (ws.getD q []) o).1 with
  |false=>rw[IT hb]at h;cases h
  |true=>
   rw[C9 hb]at h|-;exact aDw hf j (q+1) _ om (hf _ hm o ho hb) h
theorem aSB{o:List Str}{w x:Str}(h:x∈ordW o w):x∈o\/x=w:=aLZ.1 ((aDb (List.Perm.refl o) w).mem_iff.1 h)
theorem aKK{c m:Str}{ends:List Str}(hw:∀e∈ends,dQ (c++m++e)=true):∀e∈ends,∀o,Sok o->(endS c m e o).1=true->Sok (endS c m e o).2:=by
 intro e he o ho h;unfold endS at h|-;simp only[Di,decide_eq_false_iff_not]at h;refine⟨aIw ho.s _,Nat.le_of_not_lt h,fun x hx=> ?_⟩
 rcases aSB hx with hx|rfl
 ·exact ho.w x hx
 ·exact hw e he
theorem aMF{c:Str}{mids ends:List Str}(hw:∀m∈mids,∀e∈ends,dQ (c++m++e)=true):∀m∈mids,∀o,Sok o->(midZ c ends m o).1=true->Sok (midZ c ends m o).2:=
 fun m hm o ho h=>aDw (aKK (hw m hm)) ends.length 0 o om ho h
theorem d9{l:List Str}{k:Nat}(h:k<l.length):l.getD k []∈l:=by
 rw[Aa,Ad h];exact At _
structure Parts(cov mids ends:List Str):Prop where
 w:∀c∈cov,∀m∈mids,∀e∈ends,dQ (c++m++e)=true
 c:∀c∈cov,c.length<=1000
 m:∀c∈mids,c.length<=1000
 e:∀c∈ends,c.length<=1000
 nc:cov.length<=1000
 nm:mids.length<=1000
 ne:ends.length<=1000
theorem aWn{k:KA R}(hn:6<=n)(hL:2^60<=L)(o:List Str)(w:Str)(ho:Sok o)(hw:dQ w=true):aX env (aA env L n) [.arr (aM o) 1 0] 67 [.sl 0 0 0 o.length,.d (.str w)] k=k (.sl 0 (if w∈o then 0 else 1) 0 (ordW o w).length) [.arr (aM (ordW o w)) 1 (if w∈o then 0 else 1)]:=
 SX (h:=[.arr (aM o) 1 0]) (k:=k) (id:=0) (g2:=if w∈o then 0 else 1) (len:=(ordW o w).length) (cs2:=aM (ordW o w)) (e2:=1) rfl rfl GS (aNN hn hL o w ho.s hw ho.w (by have:=ho.n;omega))
theorem ZC(hn:7<=n)(hL:2^60<=L){cov mids ends:List Str}(hP:Parts cov mids ends){i q:Nat}(hi:i<cov.length)(hq:q<mids.length){k:KE R}:∀(j p m:Nat) (o:List Str) (len:Nat) (hp:p+j=ends.length) (hm:j<m) (hlen:len=o.length) (ho:Sok o),
  aT env (aA env L n) L 0 [] Bz13 (jK 2) (U4 (Z8 (Z1 (U32 (U16 (U8 (U2 (U1 ([]))))))))) m (Y4 (.d .nils::.d (.bool false)::.d (.ivs cov.length (aM cov))::.d (.ivs ends.length (aM ends))::.d (.ivs mids.length (aM mids))::.sl 0 0 0 len::nI i::nI q::nI p::Y32 (Y16 (Y8 (Y2 (Y1 ([]))))))) [.arr (aM o) 1 0] k
  =k (if(run3 (endS (cov.getD i []) (mids.getD q [])) ends j p o).1=true then .exit 4 else .ret) (Y4 (.d .nils::.d (.bool false)::.d (.ivs cov.length (aM cov))::.d (.ivs ends.length (aM ends))::.d (.ivs mids.length (aM mids))::.sl 0 0 0 (run3 (endS (cov.getD i []) (mids.getD q [])) ends j p o).2.2.length::nI i::nI q::nI ((run3 (endS (cov.getD i []) (mids.getD q [])) ends j p o).2.1:Int)::Y32 (Y16 (Y8 (Y2 (Y1 ([]))))))) [.arr (aM (run3 (endS (cov.getD i []) (mids.getD q [])) ends j p o).2.2) 1 0]:=by
 intro j
 induction j with
 |zero=>
  intro p m o len hp hm hlen ho;obtain _|m:=m;omega;obtain rfl:p=ends.length:=om;subst hlen;have e:∀f,run3 f ends 0 ends.length o=(true,ends.length,o):=fun _=>rfl;rw[e];simp only[if_true]
  simp-implicitDefEqProofs (maxSteps:=9^7) (disch:=try exact Dz) only[↓DN,↓kRet,UP,simprocAttr,Ah,tI,sC,Tryz.f30]
 |succ j ih=>
  intro p m o len hp hm hlen ho;obtain _|m:=m;omega;subst hlen;have hpe:p<ends.length:=om;have hc1:(p:Int)<ends.length:=om;have hc2:(i:Int)<cov.length:=om;have hc3:(q:Int)<mids.length:=om;have hp0:(0:Int)<=p:=om;have hi0:(0:Int)<=i:=om;have hq0:(0:Int)<=q:=om;have hw:=hP.w _ (d9 hi) _ (d9 hq) _ (d9 hpe);have hcl:=hP.c _ (d9 hi);have hml:=hP.m _ (d9 hq);have hel:=hP.e _ (d9 hpe);have hcm:(cov.getD i []++mids.getD q []).length<=2000:=by rw[Af];omega
  have hinv:=aKK (ends:=ends) (hP.w _ (d9 hi) _ (d9 hq)) _ (d9 hpe) o ho;have hol:=ho.n;have hne:=hP.ne;have kc_p:=fun {R n k} hn=> @aWn R L n k hn hL o (cov.getD i []++mids.getD q []++ends.getD p []) ho hw;have hb:(endS (cov.getD i []) (mids.getD q []) (ends.getD p []) o)=(!decide (3000<(ordW o (cov.getD i []++mids.getD q []++ends.getD p [])).length),ordW o (cov.getD i []++mids.getD q []++ends.getD p [])):=rfl;have hz:=(aTv (ws:=o) (w:=cov.getD i []++mids.getD q []++ends.getD p [])).2
  by_cases hb1:3000<(ordW o (cov.getD i []++mids.getD q []++ends.getD p [])).length
  ·have hb2:(3000:Int)<(ordW o (cov.getD i []++mids.getD q []++ends.getD p [])).length:=om;rw[IT (by rw[hb,decide_eq_true hb1];rfl),hb];simp only[Ak,if_false];clear ih hinv hb hw ho hP;generalize(if cov.getD i []++mids.getD q []++ends.getD p []∈o then 0 else 1)=g at *;generalize ordW o (cov.getD i []++mids.getD q []++ends.getD p [])=o2 at *;generalize hci:cov.getD i []=c at *;generalize hmi:mids.getD q []=mm at *;generalize hei:ends.getD p []=e at *
   simp-implicitDefEqProofs (maxSteps:=9^7) (disch:=try exact Dz) only[↓DN,↓kAsg,↓kRet,UP,simprocAttr,SE,hc1,hc2,hc3,hp0,hi0,hq0,hb2,hci,hmi,hei,↓kc_p,Bj,tI,sC,Tryz.f30]
  ·have hb2:¬(3000:Int)<(ordW o (cov.getD i []++mids.getD q []++ends.getD p [])).length:=om;rw[C9 (by rw[hb,decide_eq_false hb1];rfl),hb];have ih':=ih (p+1) m _ _ om om rfl (hinv (by rw[hb,decide_eq_false hb1];rfl));rw[hb]at ih';rw[cs1 p]at ih';simp only at ih'|-;clear ih hinv hb hw ho hP;generalize(if cov.getD i []++mids.getD q []++ends.getD p []∈o then 0 else 1)=g at *;generalize ordW o (cov.getD i []++mids.getD q []++ends.getD p [])=o2 at *;generalize run3 (endS (cov.getD i []) (mids.getD q [])) ends j (p+1) o2=z at *;generalize hci:cov.getD i []=c at *;generalize hmi:mids.getD q []=mm at *;generalize hei:ends.getD p []=e at *
   simp-implicitDefEqProofs (maxSteps:=9^7) (disch:=try exact Dz) only[↓DN,↓kRet,UP,simprocAttr,SE,hc1,hc2,hc3,hp0,hi0,hq0,hb2,hci,hmi,hei,↓kc_p,Bj,↓ih',tI,sC,Tryz.f30]
theorem aAI(hn:7<=n)(hL:2^60<=L){cov mids ends:List Str}(hP:Parts cov mids ends){i:Nat}(hi:i<cov.length){k:KE R}:∀(j p m:Nat) (o:List Str) (len:Nat) (hp:p+j=mids.length) (hm:j<m) (hlen:len=o.length) (ho:Sok o),
  aT env (aA env L n) L 0 [] Bz13 (jK 1) (U4 (Z8 (U32 (U16 (U8 (U4 ([]))))))) m (Y4 (.d .nils::.d (.bool false)::.d (.ivs cov.length (aM cov))::.d (.ivs ends.length (aM ends))::.d (.ivs mids.length (aM mids))::.sl 0 0 0 len::nI i::nI p::Y32 (Y16 (Y8 (Y4 ([])))))) [.arr (aM o) 1 0] k
  =k (if(run3 (midZ (cov.getD i []) ends) mids j p o).1=true then .exit 2 else .ret) (Y4 (.d .nils::.d (.bool false)::.d (.ivs cov.length (aM cov))::.d (.ivs ends.length (aM ends))::.d (.ivs mids.length (aM mids))::.sl 0 0 0 (run3 (midZ (cov.getD i []) ends) mids j p o).2.2.length::nI i::nI ((run3 (midZ (cov.getD i []) ends) mids j p o).2.1:Int)::Y32 (Y16 (Y8 (Y4 ([])))))) [.arr (aM (run3 (midZ (cov.getD i []) ends) mids j p o).2.2) 1 0]:=by
 intro j
 induction j with
 |zero=>
  intro p m o len hp hm hlen ho;obtain _|m:=m;omega;obtain rfl:p=mids.length:=om;subst hlen;have e:∀f,run3 f mids 0 mids.length o=(true,mids.length,o):=fun _=>rfl;rw[e];simp only[if_true]
  simp-implicitDefEqProofs (maxSteps:=9^7) (disch:=try exact Dz) only[↓DN,↓kRet,UP,simprocAttr,Ah,sY,sR,Tryz.f30]
 |succ j ih=>
  intro p m o len hp hm hlen ho;obtain _|m:=m;omega;subst hlen;have hpm:p<mids.length:=om;have hc1:(p:Int)<mids.length:=om;have hmn:=hP.nm;have hne:=hP.ne;have loop_c:=fun {R n k} hn=> @ZC R L n hn hL cov mids ends hP i p hi hpm k ends.length 0 L o o.length om om rfl ho;simp only[Ao]at loop_c;have hinv:=aMF (fun m hm=>hP.w _ (d9 hi) m hm) _ (d9 hpm) o ho;have hz:midZ (cov.getD i []) ends (mids.getD p []) o=((run3 (endS (cov.getD i []) (mids.getD p [])) ends ends.length 0 o).1,(run3 (endS (cov.getD i []) (mids.getD p [])) ends ends.length 0 o).2.2):=rfl
  cases hb:(run3 (endS (cov.getD i []) (mids.getD p [])) ends ends.length 0 o).1 with
  |false=>
   rw[IT (by rw[hz,hb]),hz];rw[hb]at loop_c;simp only[Ak,if_false]at loop_c|-;clear ih hinv hz hb ho hP;generalize run3 (endS (cov.getD i []) (mids.getD p [])) ends ends.length 0 o=z at *
   simp-implicitDefEqProofs (maxSteps:=9^7) (disch:=try exact Dz) only[↓DN,↓kAsg,↓kRet,UP,simprocAttr,hc1,↓loop_c,sY,sR,Tryz.f30]
  |true=>
   rw[C9 (by rw[hz,hb]),hz];have ih':=ih (p+1) m _ _ om om rfl (hinv (by rw[hz,hb]));rw[hz,cs1 p]at ih';rw[hb]at loop_c;simp only[if_true]at loop_c ih'|-;clear ih hinv hz hb ho hP;generalize run3 (endS (cov.getD i []) (mids.getD p [])) ends ends.length 0 o=z at *;generalize run3 (midZ (cov.getD i []) ends) mids j (p+1) z.2.2=z2 at *
   simp-implicitDefEqProofs (maxSteps:=9^7) (disch:=try exact Dz) only[↓DN,↓kAsg,↓kRet,UP,simprocAttr,hc1,↓loop_c,↓ih',sY,sR,Tryz.f30]
theorem YL(hn:7<=n)(hL:2^60<=L){cov mids ends:List Str}(hP:Parts cov mids ends){k:KE R}:∀(j p m:Nat) (o:List Str) (len:Nat) (hp:p+j=cov.length) (hm:j<m) (hlen:len=o.length) (ho:Sok o),
  aT env (aA env L n) L 0 [] Bz13 (jK 0) (U4 (Z4 (Z2 (Z1 (U32 (U16 (U8 (U4 (U1 ([])))))))))) m (Y4 (.d .nils::.d (.bool false)::.d (.ivs cov.length (aM cov))::.d (.ivs ends.length (aM ends))::.d (.ivs mids.length (aM mids))::.sl 0 0 0 len::nI p::Y32 (Y16 (Y8 (Y4 (Y1 ([]))))))) [.arr (aM o) 1 0] k
  =k (if(run3 (covZ mids ends) cov j p o).1=true then .exit 0 else .ret) (Y4 (.d .nils::.d (.bool false)::.d (.ivs cov.length (aM cov))::.d (.ivs ends.length (aM ends))::.d (.ivs mids.length (aM mids))::.sl 0 0 0 (run3 (covZ mids ends) cov j p o).2.2.length::nI ((run3 (covZ mids ends) cov j p o).2.1:Int)::Y32 (Y16 (Y8 (Y4 (Y1 ([]))))))) [.arr (aM (run3 (covZ mids ends) cov j p o).2.2) 1 0]:=by
 intro j
 induction j with
 |zero=>
  intro p m o len hp hm hlen ho;obtain _|m:=m;omega;obtain rfl:p=cov.length:=om;subst hlen;have e:∀f,run3 f cov 0 cov.length o=(true,cov.length,o):=fun _=>rfl;rw[e];simp only[if_true]
  simp-implicitDefEqProofs (maxSteps:=9^7) (disch:=try exact Dz) only[↓DN,↓kRet,UP,simprocAttr,Ah,sW,sS,Tryz.f30]
 |succ j ih=>
  intro p m o len hp hm hlen ho;obtain _|m:=m;omega;subst hlen;have hpm:p<cov.length:=om;have hc1:(p:Int)<cov.length:=om;have hmn:=hP.nm;have hcn:=hP.nc;have loop_c:=fun {R n k} hn=> @aAI R L n hn hL cov mids ends hP p hpm k mids.length 0 L o o.length om om rfl ho;simp only[Ao]at loop_c;have hinv:(covZ mids ends (cov.getD p []) o).1=true->Sok (covZ mids ends (cov.getD p []) o).2:=aDw (aMF (fun m hm=>hP.w _ (d9 hpm) m hm)) mids.length 0 o om ho;have hz:covZ mids ends (cov.getD p []) o=((run3 (midZ (cov.getD p []) ends) mids mids.length 0 o).1,(run3 (midZ (cov.getD p []) ends) mids mids.length 0 o).2.2):=rfl
  cases hb:(run3 (midZ (cov.getD p []) ends) mids mids.length 0 o).1 with
  |false=>
   rw[IT (by rw[hz,hb]),hz];rw[hb]at loop_c;simp only[Ak,if_false]at loop_c|-;clear ih hinv hz hb ho hP;generalize run3 (midZ (cov.getD p []) ends) mids mids.length 0 o=z at *
   simp-implicitDefEqProofs (maxSteps:=9^7) (disch:=try exact Dz) only[↓DN,↓kAsg,↓kRet,UP,simprocAttr,hc1,↓loop_c,sW,sS,Tryz.f30]
  |true=>
   rw[C9 (by rw[hz,hb]),hz];have ih':=ih (p+1) m _ _ om om rfl (hinv (by rw[hz,hb]));rw[hz,cs1 p]at ih';rw[hb]at loop_c;simp only[if_true]at loop_c ih'|-;clear ih hinv hz hb ho hP;generalize run3 (midZ (cov.getD p []) ends) mids mids.length 0 o=z at *;generalize run3 (covZ mids ends) cov j (p+1) z.2.2=z2 at *
   simp-implicitDefEqProofs (maxSteps:=9^7) (disch:=try exact Dz) only[↓DN,↓kAsg,↓kRet,UP,simprocAttr,hc1,↓loop_c,↓ih',sW,sS,Tryz.f30]
def dE(a:Aut)(x:Int):Option (List Str):=if cD a.al a.nx a.ac=true/\0<=x/\x<=2 then tL (cL a) (midG (aB a.al) (x.toNat+1)) (sepW a)else none
theorem aM2{a:Aut}(h:AOK a){e:Nat}(he:e<=2):Parts (cL a) (midG (aB a.al) (e+1)) (sepW a):=by
 obtain⟨_,_,a1,a2,_⟩:=aR h;have ha:=(gA h).2.2.2;have h1:=H1 h;have h2:=UT h;have h3:=HZ (bO a.al) (e+1) om;exact⟨fun c hc m hm w hw=>((aEz h hc hm hw).ok ha om).2,fun c hc=>by have:=(aRC h c hc).1;omega,fun c hc=>by have:=(aQ0 c hc).1;omega,fun c hc=>by have:=(aQ1 h c hc).1;omega,by omega,by omega,by omega⟩
theorem Q3(hn:15<=n)(a:Aut)(x:Int)(hs:aW a.nx)(hac:a.ac.length<=4294967296)(hL:2^60<=L):aA env L n 30 [.agg [nI a.al,.d (.ivs a.nx.length (aE a.nx)),.d (.ivs a.ac.length (aD a.ac))],nI x] []=some (.tup [.d (.ivs ((dE a x).getD []).length (aM ((dE a x).getD []))),.d (.bool (dE a x).isSome)],[]):=by
 have hrl:=hs.1
 cases hv:cD a.al a.nx a.ac with
 |false=>
  have e:dE a x=none:=if_neg fun h=>by rw[hv]at h;cases h.1
  rw[e];simp only[Option.getD_none,Ck,Ac,kW];obtain _|n:=n;omega
  simp-implicitDefEqProofs (maxSteps:=9^7) (disch:=try exact Dz) only[↓DN,↓kAsg,↓kRet,UP,simprocAttr,↓bA,hv,oM,mF,Tryz.f30]
 |true=>
  by_cases hx0:x<0
  ·have e:dE a x=none:=if_neg fun h=>by omega
   rw[e];simp only[Option.getD_none,Ck,Ac,kW];obtain _|n:=n;omega
   simp-implicitDefEqProofs (maxSteps:=9^7) (disch:=try exact Dz) only[↓DN,↓kAsg,↓kRet,UP,simprocAttr,↓bA,hv,hx0,oM,mF,Tryz.f30]
  ·by_cases hx1:2<x
   ·have e:dE a x=none:=if_neg fun h=>by omega
    rw[e];simp only[Option.getD_none,Ck,Ac,kW];obtain _|n:=n;omega
    simp-implicitDefEqProofs (maxSteps:=9^7) (disch:=try exact Dz) only[↓DN,↓kAsg,↓kRet,UP,simprocAttr,↓bA,hv,hx0,hx1,oM,mF,Tryz.f30]
   ·obtain⟨e,rfl⟩:∃e:Nat,x=e:=⟨x.toNat,by omega⟩
    have he:e<=2:=om;have hP:=aM2 (a:=a) hv he;have e1:dE a e=tL (cL a) (midG (aB a.al) (e+1)) (sepW a):=if_pos ⟨hv,by omega,by omega⟩;have e2:XX a=cL a:=by unfold XX;exact if_pos hv
    have e3:sepR a=sepW a:=by unfold sepR;exact if_pos hv
    have kc_c:=@aGm L a hs hac hL;have kc_w:=@SZ L a hs hac hL;have kc_m:=@aHP L a.al (e+1) om hL;rw[e2]at kc_c;rw[e3]at kc_w;rw[cs1 e]at kc_m;have hcn:=hP.nc;have loop_c:=fun {R n k} hn=> @YL R L n hn hL _ _ _ hP k (cL a).length 0 L [] 0 om om rfl ⟨List.Pairwise.nil,by simp,by simp⟩;have hr:=SM (f:=covZ (midG (aB a.al) (e+1)) (sepW a)) (ws:=cL a) (cL a).length 0 [] om;rw[Ay,aUT]at hr;have hr:tL (cL a) (midG (aB a.al) (e+1)) (sepW a)=_:=hr;rw[e1];simp only[Ao,kW]at loop_c;generalize tL (cL a) (midG (aB a.al) (e+1)) (sepW a)=S at *;clear hP e1 e2 e3;generalize cL a=cov at *;generalize midG (aB a.al) (e+1)=mids at *;generalize sepW a=ends at *;generalize run3 (covZ mids ends) cov cov.length 0 []=z at *
    cases hb:z.1 with
    |false=>
     rw[hb,if_neg Bool.false_ne_true]at hr;rw[hr];rw[hb]at loop_c;simp only[Option.getD_none,Ck,Ac,kW,Ak,if_false]at loop_c|-;obtain _|n:=n;omega
     simp-implicitDefEqProofs (maxSteps:=9^7) (disch:=try exact Dz) only[↓DN,↓kAsg,↓kRet,UP,simprocAttr,↓bA,hv,hx0,hx1,↓kc_c,↓kc_w,↓kc_m,↓loop_c,oM,mF,Tryz.f30]
    |true=>
     rw[hb,if_pos rfl]at hr;rw[hr];rw[hb]at loop_c;simp only[Be,Cu,if_true]at loop_c|-;have e4:(aM z.2.2).take z.2.2.length=aM z.2.2:=iD (Ab _);obtain _|n:=n;omega
     simp-implicitDefEqProofs (maxSteps:=9^7) (disch:=try exact Dz) only[↓DN,↓kAsg,↓kRet,UP,simprocAttr,↓bA,SE,hv,hx0,hx1,e4,↓kc_c,↓kc_w,↓kc_m,↓loop_c,oM,mF,Tryz.f30]
theorem QO:type_of% fun {L} a x hs hac hL=>ks fun hn=> @Q3 L _ hn a x hs hac hL:=fun {L} a x hs hac hL=>ks fun hn=> @Q3 L _ hn a x hs hac hL
end
theorem aGR:∀l:List Str,FM (aM l)=some l
 | []=>rfl
 |s::l=>by
  show(FM (aM l)).map (s::·)=_;rw[aGR l];rfl
theorem aPz{a:Aut}{j i:Nat}(h:(oneG a (i:Nat)).2=true):gY a (j+1) i=txt (oneG a (i:Nat)).1::gY a j (i+1):=by
 simp[gY,Dx,h]
theorem aPT{a:Aut}{j i:Nat}(h:(oneG a (i:Nat)).2=false):gY a (j+1) i=gY a j (i+1):=by
 simp[gY,Dx,h]
theorem aQt(l:List Str):(aF1 l).length=l.length:=List.length_mergeSort _
theorem aP5{l:List Str}(hl:l.length<=4294967296):MK 29 [.sl 0 0 0 l.length,.clo 29 []] [.arr (aM l) 1 0]=some (.tup [],[.arr (aM (aF1 l)) 1 0]):=by
 have h1:True/\True/\True/\(l.length=0\/True)/\l.length<=(aM l).length/\l.length<=bI:=by
  refine⟨trivial,trivial,trivial,.inr trivial,by rw[d7];omega,by unfold bI;omega⟩
 have h2:FM ((aM l).take l.length)=some l:=by rw[iD (Ab _),aGR]
 have h3:(aM l).drop l.length=[]:=by rw[aQc,Bt];rfl
 simp only[MK,Cr];rw[if_pos h1];simp only[h2,h3,Aj,Ci]<;>rfl
theorem yF{R:Type}{L n id:Nat}{hq:H}{k:KA R}(hn:1<=n)(l:List Str)(hi:hq[id]? =some (.arr (aM l) 1 0))(hl:l.length<=4294967296):
  aX env (aA env L n) hq 58 [.sl id 0 0 l.length,.clo 29 []] k=k (.tup []) (hq.set id (.arr (aM (aF1 l)) 1 0)):=by
 obtain _|n:=n;omega;exact ZU hi (by simp[idsL,idsA]) fD (by simp[idsA,idsL]) (by rw[vY];simpa [aG,mapA,aJ]using aP5 hl)
theorem aBF{R:Type}{L n:Nat}(hn:9<=n)(hL:2^60<=L){a:Aut}(ha:AOK a){k:KE R}:∀(q i m:Nat) (o:List Str) (len:Nat) (hq:i+q=a.nx.length) (hm:q<m) (hlen:len=o.length) (ho:o.length+q<=100000),
  aT env (aA env L n) L 0 [0,0,0,2] Bz55 (AQ 0) (U1 (Z2 (Z1 (U8 (Z2 (U16 (U1 ([])))))))) m (Y1 (.ptr 0 0 0::.d .nils::.sl 1 0 0 len::Y8 (nI (a.nx.length)::nI i::Y16 (Y1 ([]))))) [.box [nI a.al,.d (.ivs a.nx.length (aE a.nx)),.d (.ivs a.ac.length (aD a.ac))],.arr (aM o) 1 0] k
  =k (.exit 0) (Y1 (.ptr 0 0 0::.d .nils::.sl 1 0 0 (o++gY a q i).length::Y8 (nI (a.nx.length)::nI (a.nx.length:Int)::Y16 (Y1 ([]))))) [.box [nI a.al,.d (.ivs a.nx.length (aE a.nx)),.d (.ivs a.ac.length (aD a.ac))],.arr (aM (o++gY a q i)) 1 0]:=by
 obtain⟨sa,wa,a1,a2,a3⟩:=aR ha;have hac:a.ac.length<=4294967296:=om;have hal:=sa.1;intro q
 induction q with
 |zero=>
  intro i m o len hq hm hlen ho;obtain _|m:=m;omega;obtain rfl:i=a.nx.length:=om;subst hlen;have e:gY a 0 a.nx.length=[]:=rfl;rw[e,Aj]
  simp-implicitDefEqProofs (maxSteps:=9^7) (disch:=try exact Dz) only[↓DN,↓kRet,UP,simprocAttr,Ah,rU,pS,Tryz.f26]
 |succ q ih=>
  intro i m o len hq hm hlen ho;obtain _|m:=m;omega;subst hlen;have hc:(i:Int)<a.nx.length:=om;have kc_s:=@aGo L a i sa hac hL;have hacc:accG a (i:Nat)=oneG a (i:Nat):=by unfold accG;exact if_pos ha
  rw[hacc]at kc_s
  cases hb:(oneG a (i:Nat)).2 with
  |false=>
   have ih':=ih (i+1) m o o.length om om rfl om;rw[cs1 i]at ih';rw[aPT hb];rw[hb]at kc_s;clear ih;generalize gY a q (i+1)=w2 at *;generalize txt (oneG a (i:Nat)).1=w at *
   simp-implicitDefEqProofs (maxSteps:=9^7) (disch:=try exact Dz) only[↓DN,↓kRet,UP,simprocAttr,hc,↓kc_s,↓ih',rU,pS,Tryz.f26]
  |true=>
   have ih':=ih (i+1) m (o++[txt (oneG a (i:Nat)).1]) (o.length+1) om om smp (by simp;omega);rw[cs1 i]at ih';simp only[Al,Dl]at ih';rw[aPz hb];rw[hb]at kc_s;clear ih;generalize gY a q (i+1)=w2 at *;generalize txt (oneG a (i:Nat)).1=w at *
   simp-implicitDefEqProofs (maxSteps:=9^7) (disch:=try exact Dz) only[↓DN,↓kRet,UP,simprocAttr,SE,hc,↓kc_s,mN,↓ih',rU,pS,Tryz.f26]
theorem aFh{L n:Nat}(hn:10<=n)(a:Aut)(hv:AOK a)(hL:2^60<=L):aA env L n 26 [.agg [nI a.al,.d (.ivs a.nx.length (aE a.nx)),.d (.ivs a.ac.length (aD a.ac))]] []=some (.sl 0 0 0 (cL a).length,[.arr (aM (cL a)) 1 0]):=by
 obtain⟨sa,wa,a1,a2,a3⟩:=aR hv;have hrl:=sa.1;have hac:a.ac.length<=4294967296:=om;have loop_c:=fun {R n k} hn=> @aBF R L n hn hL a hv k a.nx.length 0 L [] 0 om om rfl (by simp;omega);rw[Aq]at loop_c;have hcs:=aPf hv;have hl:=H1 hv;have hl2:=aQt (gY a a.nx.length 0);rw[hcs]at hl2;have hl3:(gY a a.nx.length 0).length<=4294967296:=om;simp only[Ao,kW]at loop_c;rw[<-hl2]at loop_c;have kc_q:=fun {R:Type} {n id:Nat} {hq:H} {k:KA R} (hn:1<=n) (hi:hq[id]? =some (.arr (aM (gY a a.nx.length 0)) 1 0))=> @yF R L n id hq k hn (gY a a.nx.length 0) hi hl3;rw[hcs,<-hl2]at kc_q;unfold AOK at hv;clear hcs;generalize gY a a.nx.length 0=w0 at *;generalize cL a=w at *;have e4:(aM w).take w.length=aM w:=iD (Ab _);obtain _|n:=n;omega
 simp-implicitDefEqProofs (maxSteps:=9^7) (disch:=try exact Dz) only[↓DN,↓kAsg,↓kRet,UP,simprocAttr,↓bB,hv,↓loop_c,↓kc_q,aEP,RO,Tryz.f26]
theorem SR{R:Type}{E:Env}{call:a6}{h h2:H}{f:FuncId}{args:List A}{r:A}{k:KA R}(hs:args.all sA=true)(hm:(E.hint f).mode=3)(hc:call f args []=some (r,h2))(hcl:(lV r&&h2.all kE)=true):
  aX E call h f args k=k (mapA (back [] h.length h2.length) r) (h++h2.map (mapO (back [] h.length h2.length))):=by
 have hcall:bW call E.hint [] f args=some (mapA (back [] 0 h2.length) r,h2.map (mapO (back [] 0 h2.length))):=by
  unfold bW;rw[hm];simp only[xD hs,hc,hcl,if_true,Ac,Aq]
 unfold aX;rw[AF hs,AS,fS _ (AF hs)];have:pack h []=[]:=rfl;rw[this,hcall]
 have hb:∀i,(back [] 0 h2.length i).bind (back [] h.length h2.length)=back [] h.length h2.length i:=by
  intro i;unfold back;simp only[Ac,Cb,if_false,Nat.sub_zero,Ag]
  split
  ·rename_i hi;simp[hi]
  ·rfl
 simp only[Ac,Nat.zero_le,true_and,closed,Cd,Bo,if_true,bJ,Am];rw[aIZ hb,List.map_map]
 congr 2
 apply Cz;intro o _;exact aRA hb o
theorem aE7(l:List Str):kE (.arr (aM l) 1 0)=true:=by
 simp only[kE,aM,List.all_map,Bk];intro x _;rfl
theorem aBW{R:Type}{E:Env}{call:a6}{h:H}{f:FuncId}{args:List A}{l:List Str}{k:KA R}(hs:args.all sA=true)(hm:(E.hint f).mode=3)(hc:call f args []=some (.sl 0 0 0 l.length,[.arr (aM l) 1 0])):
  aX E call h f args k=k (.sl h.length 0 0 l.length) (h++[.arr (aM l) 1 0]):=by
 rw[SR hs hm hc (by simp only[lV,Bw,Cd,aE7,Bo])];simp[mapA,back,mapO]
section
variable{R:Type}{L n:Nat}
theorem aPR{l:Int}{h:H}:eK env.P h 5 21 (.d (.int .u8 ((cM l).toNat:Int)))=some (.d (.int .i32 ((cM l).toNat:Int)),h):=by
 have e:IntKind.i32.wrap ((cM l).toNat:Int)=((cM l).toNat:Int):=IntWalk.i32_in _ (by have:=toNat_lt (cM l);constructor<;>omega);have hu:env.P.underlying 21=some (.int .i32):=kr;rw[zC aA0 hu,e]
theorem aPC{l:Int}(h0:0<=l)(h5:l<=5){h:H}:eK env.P h 21 9 (.d (.int .i32 ((cM l).toNat:Int)))=some (.d (.str [cM l]),h):=by
 have hu:env.P.underlying 21=some (.int .i32):=kr;have hs:env.P.underlying 9=some .string:=kr
 have e:(Utf8.encode ((cM l).toNat:Int)).data.toList=[cM l]:=by
  rcases(show l=0\/l=1\/l=2\/l=3\/l=4\/l=5 by omega)with rfl|rfl|rfl|rfl|rfl|rfl<;>kernel_rfl
 unfold eK;rw[hu,hs];simp only[e]
theorem aAP(hn:2<=n)(hL:2^60<=L){ls:List Int}(hls:∀l∈ls,0<=l/\l<=5)(hl:ls.length<=6){al x:Int}{f e c p:Nat}{w:Str}(hw:w.length<=100000){k:KE R}:∀(j q m:Nat) (o:List Str) (len g:Nat) (hq:q+j=ls.length) (hm:j<m) (hlen:len=o.length) (hg:g=o.length+1) (ho:o.length+j<=100000),
  aT env (aA env L n) L 0 (W8 (W4 [2002])) Bz6 (jC 2) (Z2 (U2 (Z4 (U1 (Z1 (U8 (U4 (Z2 (Z1 (U4 (Z2 (Z1 (U16 ([])))))))))))))) m (nI al::nI x::Y2 (.d .nils::.sl 0 g 0 len::nI f::nI e::Y1 (.d (.str w)::Y8 (Y4 (.sl 0 (e+1) f c::nI c::nI p::Y4 (.d (.ivs ls.length (ints ls))::nI (ls.length:Int)::nI q::Y16 ([]))))))) [.log (aM o)] k
  =k (.exit 4) (nI al::nI x::Y2 (.d .nils::.sl 0 ((o++chG (ls.drop q) w).length+1) 0 (o++chG (ls.drop q) w).length::nI f::nI e::Y1 (.d (.str w)::Y8 (Y4 (.sl 0 (e+1) f c::nI c::nI p::Y4 (.d (.ivs ls.length (ints ls))::nI (ls.length:Int)::nI (ls.length:Int)::Y16 ([]))))))) [.log (aM (o++chG (ls.drop q) w))]:=by
 intro j
 induction j with
 |zero=>
  intro q m o len g hq hm hlen hg ho;obtain _|m:=m;omega;obtain rfl:q=ls.length:=om;subst hlen;subst hg;have e:o++chG (ls.drop ls.length) w=o:=by simp[chG]
  rw[e]
  simp-implicitDefEqProofs (maxSteps:=9^7) (disch:=try exact Dz) only[↓DN,↓kRet,UP,simprocAttr,Ah,EH,A7,Tryz.f24]
 |succ j ih=>
  intro q m o len g hq hm hlen hg ho;obtain _|m:=m;omega;subst hlen;subst hg;have hk:q<ls.length:=om;have hc:(q:Int)<ls.length:=om;have hq0:(0:Int)<=q:=om;have hmem:ls.getD q 0∈ls:=by rw[Aa,Ad hk];exact At _
  obtain⟨b0,b1⟩:=hls _ hmem
  have e:o++chG (ls.drop q) w=(o++[w++[cM (ls.getD q 0)]])++chG (ls.drop (q+1)) w:=by
   rw[b8 hk (d:=0)];simp[chG]
  have ih':=ih (q+1) m (o++[w++[cM (ls.getD q 0)]]) (o.length+1) (o.length+1+1) om om smp smp (by simp;omega);rw[cs1 q]at ih';rw[e];clear ih e hmem hls;generalize hb:ls.getD q 0=b at *;have kc_t:=@M6 L b b0 b1;have conv_r:=fun {h:H}=> @aPC b b0 b1 h;generalize o++[w++[cM b]]++chG (ls.drop (q+1)) w=z at *;have hol:(aM o).length=o.length:=d7
  simp-implicitDefEqProofs (maxSteps:=9^7) (disch:=try exact Dz) only[↓DN,↓kRet,UP,simprocAttr,hc,hq0,hb,hol,↓kc_t,↓aPR,↓conv_r,mN,↓ih',EH,A7,Tryz.f24]
theorem ZH(hn:2<=n)(hL:2^60<=L){al x:Int}{f e c:Nat}{vs:List Str}(hv:vs.length=c)(hvw:∀w∈vs,w.length<=100000)(hfe:f+c=e)(he:e<=1000000000){k:KE R}:∀(j p m:Nat) (o:List Str) (len g:Nat) (hp:p+j=c) (hm:j<m) (hlen:len=o.length) (hg:g=o.length+1) (ho:o.length+6*j<=90000) (hoe:e<=o.length) (hod:∀i,i<c->o.getD (f+i) []=vs.getD i []),
  aT env (aA env L n) L 0 (W8 (W4 [2002])) Bz6 (jC 1) (Z2 (U2 (Z4 (U8 (U4 (U2 (Z2 (Z1 (U16 (U4 (U2 (U1 ([]))))))))))))) m (nI al::nI x::Y2 (.d .nils::.sl 0 g 0 len::nI f::nI e::Y8 (Y4 (Y2 (.sl 0 (e+1) f c::nI c::nI p::Y16 (Y4 (Y2 (Y1 ([]))))))))) [.log (aM o)] k
  =k (.exit 2) (nI al::nI x::Y2 (.d .nils::.sl 0 ((o++(vs.drop p).flatMap (chG (aB al))).length+1) 0 (o++(vs.drop p).flatMap (chG (aB al))).length::nI f::nI e::Y8 (Y4 (Y2 (.sl 0 (e+1) f c::nI c::nI c::Y16 (Y4 (Y2 (Y1 ([]))))))))) [.log (aM (o++(vs.drop p).flatMap (chG (aB al))))]:=by
 have hl6:=bO al;intro j
 induction j with
 |zero=>
  intro p m o len g hp hm hlen hg ho hoe hod;obtain _|m:=m;omega;obtain rfl:p=c:=om;subst hlen;subst hg;have e:o++(vs.drop p).flatMap (chG (aB al))=o:=by rw[List.drop_of_length_le om];simp
  rw[e]
  simp-implicitDefEqProofs (maxSteps:=9^7) (disch:=try exact Dz) only[↓DN,↓kRet,UP,simprocAttr,Ah,FS,z7,Tryz.f24]
 |succ j ih=>
  intro p m o len g hp hm hlen hg ho hoe hod;obtain _|m:=m;omega;subst hlen;subst hg;have hk:p<vs.length:=om;have hc:(p:Int)<c:=om;have hp0:(0:Int)<=p:=om;have hw:=hvw _ (d9 hk)
  have hgd:(((aM o).drop (f+p)).take 1)=[.str (vs.getD p [])]:=by
   have:=hod p om;have hlt:f+p<o.length:=om
   have h1:(aM o).drop (f+p)=.str (o.getD (f+p) [])::(aM o).drop (f+p+1):=by
    rw[Dq (by rw[d7];exact hlt)]
    congr 1
    simp[aM,Aa,Ad hlt]
   rw[h1,this];rfl
  have loop_c:=fun {R n k} hn=> @aAP R L n hn hL (aB al) cE hl6 al x f e c p (vs.getD p []) hw k (aB al).length 0 L o o.length (o.length+1) om om rfl rfl om;rw[Ay]at loop_c;simp only[Ao]at loop_c;have hcl:(chG (aB al) (vs.getD p [])).length<=6:=by rw[aOK];exact hl6
  have he2:o++(vs.drop p).flatMap (chG (aB al))=(o++chG (aB al) (vs.getD p []))++(vs.drop (p+1)).flatMap (chG (aB al)):=by
   rw[b8 hk (d:=[]),List.flatMap_cons,Al]
  have ih':=ih (p+1) m (o++chG (aB al) (vs.getD p [])) _ _ om om rfl rfl (by rw[Af];omega) (by rw[Af];omega) (fun i hi=>by
   rw[<-hod i hi,Aa,Bc om,<-Aa])
  rw[cs1 p]at ih';rw[he2];have hol:(aM o).length=o.length:=d7;have hg0:0<e+1:=om;have hg1:e+1<=o.length+1:=om;clear ih he2 hod hvw;generalize vs.getD p []=w at *;generalize o++chG (aB al) w++(vs.drop (p+1)).flatMap (chG (aB al))=z at *;generalize o++chG (aB al) w=o2 at *;have hf1:f+p+1<e+1:=om
  simp-implicitDefEqProofs (maxSteps:=9^7) (disch:=try exact Dz) only[↓DN,↓kRet,UP,simprocAttr,↓jG,hc,hp0,hol,hgd,hg0,hg1,hf1,↓loop_c,↓ih',FS,z7,Tryz.f24]
theorem aRi{o:List Str}{f c:Nat}(hf:f<=o.length)(hc:o.length-f=c):eQ env.P [.log (aM o)] 30 (.sl 0 (o.length+1) 0 o.length) (some (f:Int)) (some (o.length:Int))=some (.sl 0 (o.length+1) f c):=by
 have hu:env.P.underlying 30=some (.slice 9):=kr;have hs:env.P.cellsOf 9=1:=kr
 have hb:lJ o.length (some (f:Int)) (some (o.length:Int))=some (f,o.length):=by
  unfold lJ;simp only[Be];rw[if_pos ⟨by omega,by omega,by omega⟩];simp
 have h1:0<o.length+1/\o.length+1<=(aM o).length+1/\True:=⟨by omega,by rw[d7];omega,trivial⟩
 simp only[eQ,hu,Cr,hs,hb,Az,hc,Ag];rw[if_pos h1]
theorem Y3(hn:3<=n)(hL:2^60<=L){al:Int}{k:KE R}:∀(j t m:Nat) (o:List Str) (len g f:Nat) (ht:t+j<=3) (hm:j<m) (hlen:len=o.length) (hg:g=o.length+1) (ho:o=midG (aB al) t) (hf:f+(lvG (aB al) t).length=o.length),
  aT env (aA env L n) L 0 (W8 (W4 [2002])) Bz6 (jC 0) (Z2 (U2 (Z2 (Z1 (U32 (U8 (U1 ([])))))))) m (nI al::nI j::Y2 (.d .nils::.sl 0 g 0 len::nI f::Y32 (Y8 (Y1 ([]))))) [.log (aM o)] k
  =k (.exit 0) (nI al::nI 0::Y2 (.d .nils::.sl 0 ((midG (aB al) (t+j)).length+1) 0 (midG (aB al) (t+j)).length::nI (((midG (aB al) (t+j)).length-(lvG (aB al) (t+j)).length:Nat):Int)::Y32 (Y8 (Y1 ([]))))) [.log (aM (midG (aB al) (t+j)))]:=by
 have hl6:=bO al;intro j
 induction j with
 |zero=>
  intro t m o len g f ht hm hlen hg ho hf;obtain _|m:=m;omega;subst hlen;subst hg;rw[show t+0=t from rfl,<-ho,show o.length-(lvG (aB al) t).length=f by omega];clear ho hf
  simp-implicitDefEqProofs (maxSteps:=9^7) (disch:=try exact Dz) only[↓DN,↓kRet,UP,simprocAttr,Ah,FR,AH,Tryz.f24]
 |succ j ih=>
  intro t m o len g f ht hm hlen hg ho hf;obtain _|m:=m;omega;subst hlen;subst hg;have hs:=HZ hl6 t om;have hs2:=HZ hl6 (t+1) om;have hsp:midG (aB al) (t+1)=o++lvG (aB al) (t+1):=by rw[ho];rfl
  have hol:o.length<=259:=by rw[ho];exact hs
  obtain⟨p,hp⟩:=aQD (ls:=aB al) t;rw[<-ho]at hp;have hpl:p.length=f:=by have:=congrArg List.length hp;rw[Af]at this;omega
  have hod:∀i,i<(lvG (aB al) t).length->o.getD (f+i) []=(lvG (aB al) t).getD i []:=by
   intro i hi;rw[hp,Aa,Bn om,show f+i-p.length=i by omega,<-Aa]
  have loop_c:=fun {R n k} hn=> @ZH R L n hn hL al ((j+1:Nat):Int) f o.length (lvG (aB al) t).length (lvG (aB al) t) rfl (fun w hw=>by have:=(LU t w hw).1;omega) hf om k (lvG (aB al) t).length 0 L o o.length (o.length+1) om om rfl rfl om om hod;rw[Ay]at loop_c;have e1:o++(lvG (aB al) t).flatMap (chG (aB al))=midG (aB al) (t+1):=by rw[hsp];rfl
  rw[e1]at loop_c;have ih':=ih (t+1) m (midG (aB al) (t+1)) _ _ o.length om om rfl rfl rfl (by rw[hsp,Af]);rw[show t+1+j=t+(j+1) by omega]at ih';have e2:((j+1:Nat):Int)-1=(j:Int):=om;have hj1:(0:Int)<((j+1:Nat):Int):=om;have hj2:((j+1:Nat):Int)<=3:=om;simp only[Ao]at loop_c;have hfo:(f:Int)<=o.length:=om;have hf0:(0:Int)<=f:=om;have hsub:o.length-f=(lvG (aB al) t).length:=om;have hol2:(aM o).length=o.length:=d7;have hfn:f<=o.length:=om;clear ih hod hp hsp e1 ho;generalize midG (aB al) (t+1)=o2 at *;generalize(midG (aB al) (t+(j+1))).length-(lvG (aB al) (t+(j+1))).length=zf at *;generalize midG (aB al) (t+(j+1))=z at *;generalize(lvG (aB al) t).length=c at *;generalize((j+1:Nat):Int)=x at *;have conv_s:=@aRi o f c hfn hsub
  simp-implicitDefEqProofs (maxSteps:=9^7) (disch:=try exact Dz) only[↓DN,↓kRet,UP,simprocAttr,hj1,↓conv_s,e2,↓loop_c,↓ih',FR,AH,Tryz.f24]
theorem RG(hn:4<=n)(al:Int)(x:Nat)(hx:x<=3)(hL:2^60<=L):aA env L n 24 [nI al,nI x] []=some (.d (.ivs (midG (aB al) x).length (aM (midG (aB al) x))),[]):=by
 have loop_c:=fun {R n k} hn=> @Y3 R L n hn hL al k x 0 L [[]] 1 2 0 om om rfl rfl rfl rfl;have e1:aM [[]]=[.str []]:=rfl;rw[e1,Ag]at loop_c;simp only[Ao]at loop_c;generalize(midG (aB al) x).length-(lvG (aB al) x).length=f at *;generalize midG (aB al) x=w at *;have e4:(aM w).take w.length=aM w:=iD (Ab _);have hol2:(aM w).length=w.length:=d7;obtain _|n:=n;omega
 simp-implicitDefEqProofs (maxSteps:=9^7) (disch:=try exact Dz) only[↓DN,↓kAsg,↓kRet,UP,simprocAttr,e4,hol2,↓loop_c,Ab,aGZ,VT,Tryz.f24]
theorem aHj:type_of% fun {L} al x hx hL=>ks fun hn=> @RG L _ hn al x hx hL:=fun {L} al x hx hL=>ks fun hn=> @RG L _ hn al x hx hL
def setS(o:List Str):List (D×D):=o.map fun w=>(.str w,.bool true)
theorem TW{o:List Str}:(setS o).length=o.length:=Am _
theorem aJk:∀o:List Str,EZ (setS o)=some o
 | []=>rfl
 |w::o=>by
  show(EZ (setS o)).map (w::·)=_;rw[aJk o];rfl
theorem aME{x:Str}:∀(o:List Str) (pre:List (D×D)),∃r,nV .string (.str x) (setS o) pre.length=some r/\qY (pre++setS o) (.str x) (.bool true) r=pre++setS (insW o x)
 | [],pre=>⟨none,rfl,by simp[qY,setS,insW]⟩
 |y::o,pre=>by
  by_cases h:x=y
  ·subst h;refine⟨some pre.length,by simp[setS,nV,IL],?_⟩;have e:insW (x::o) x=x::o:=if_pos Bf;rw[e];show(pre++(D.str x,D.bool true)::setS o).set pre.length (.str x,.bool true)=pre++(D.str x,D.bool true)::setS o;rw[Dk _ _ (Ab _),Bj,Ci]
  ·obtain⟨r,h1,h2⟩:=aME (x:=x) o (pre++[(.str y,.bool true)]);have hb:(x==y)=false:=by simpa using h
   have e:insW (y::o) x=y::insW o x:=by
    unfold insW
    by_cases hm:x∈o
    ·rw[if_pos hm,if_pos (Bb _ hm)]
    ·rw[if_neg hm,if_neg fun h3=>(Au.1 h3).elim h hm];rfl
   refine⟨r,?_,?_⟩
   ·rw[Af,Cx]at h1;simp only[setS,Ai,nV,IL,hb];exact h1
   ·rw[e];rw[Al,Al]at h2;exact h2
theorem map_set:mapT env.P 44=some (.string,4):=kr
theorem aVI{T:H}{o:List Str}{x:Str}:d5 env.P (.mp (setS o)::T) 44 (.mp 0) (.d (.str x)) (.d (.bool true))=some (.d .undef,.mp (setS (insW o x))::T):=by
 obtain⟨r,h1,h2⟩:=aME (x:=x) o [];have h1:nV .string (.str x) (setS o) 0=some r:=h1;have h2:qY (setS o) (.str x) (.bool true) r=setS (insW o x):=h2;unfold d5;simp only[map_set,Cr,H9,pQ,Bo,if_true,h1,h2,Ci]
theorem aSY{R:Type}{s:List A}{k:A->Option R}:kv s (.const .nilFunc) k=k (.d .nilfn):=rfl
theorem aMU(hn:1<=n){es:List (D×D)}:aA env L n 28 [.mp 0] [.mp es]=some (.clo 60 [.ptr 1 0 0],[.mp es,.box [.mp 0]]):=by
 obtain _|n:=n;omega
 simp-implicitDefEqProofs (maxSteps:=9^7) (disch:=try exact Dz) only[↓DN,↓kAsg,↓kRet,UP,simprocAttr,↓aSY,pX,iQ,Tryz.f28]
theorem aU0{es:List (D×D)}{x y:O}{k:KA R}(hn:1<=n):aX env (aA env L n) [.mp es,x,y] 28 [.mp 0] k=k (.clo 60 [.ptr 3 0 0]) [.mp es,x,y,.box [.mp 0]]:=by
 have hre:aF aI [.mp es,x,y] (idsL [.mp 0]) []=[0]:=rfl;have hpk:pack [.mp es,x,y] [0]=[.mp es]:=rfl;have hma:aG (aJ [0]) [.mp 0]=[.mp 0]:=rfl
 have hc:bW (aA env L n) env.hint [.mp es] 28 [.mp 0]=some (.clo 60 [.ptr 1 0 0],[.mp es,.box [.mp 0]]):=by
  unfold bW;rw[dS];exact aMU hn
 unfold aX;rw[hre,hpk,hma,hc];rfl
theorem aNq{o:List Str}(h0:0<o.length)(h1:o.length<=4294967296)(hw:∀s∈o,s.length<=4294967296):DY 60 29 [.clo 60 [.ptr 0 0 0],.clo 29 []] [.box [.mp 1],.mp (setS o)]=some (.sl 2 0 0 o.length,[.box [.mp 1],.mp (setS o),.arr (aM (o.mergeSort leX)) 1 0]):=by
 have h2:o.all (fun s=>decide (s.length<=bI))=true:=Bk.2 fun s hs=>decide_eq_true (hw s hs)
 have h3:True/\True/\True/\True/\0<(setS o).length/\(setS o).length<=bI:=by
  rw[TW];exact⟨trivial,trivial,trivial,trivial,h0,h1⟩
 simp only[DY,Cr,Aw,aJk,h2,if_true];rw[if_pos h3,TW];rfl
theorem aRZ{o:List Str}{x y:O}{k:KA R}(hn:1<=n)(h0:0<o.length)(h1:o.length<=4294967296)(hw:∀s∈o,s.length<=4294967296):aX env (aA env L n) [.mp (setS o),x,y,.box [.mp 0]] 27 [.clo 60 [.ptr 3 0 0],.clo 29 []] k=k (.sl 4 0 0 o.length) [.mp (setS o),x,y,.box [.mp 0],.arr (aM (o.mergeSort leX)) 1 0]:=by
 obtain _|n:=n;omega;have hre:aF aI [.mp (setS o),x,y,.box [.mp 0]] (idsL [.clo 60 [.ptr 3 0 0],.clo 29 []]) []=[3,0]:=rfl;have hpk:pack [.mp (setS o),x,y,.box [.mp 0]] [3,0]=[.box [.mp 1],.mp (setS o)]:=rfl;have hma:aG (aJ [3,0]) [.clo 60 [.ptr 3 0 0],.clo 29 []]=[.clo 60 [.ptr 0 0 0],.clo 29 []]:=rfl
 have hc:bW (aA env L (n+1)) env.hint [.box [.mp 1],.mp (setS o)] 27 [.clo 60 [.ptr 0 0 0],.clo 29 []]=some (.sl 2 0 0 o.length,[.box [.mp 1],.mp (setS o),.arr (aM (o.mergeSort leX)) 1 0]):=by
  unfold bW;rw[iU];show aA env L (n+1) _ _ _=_;rw[B1];exact aNq h0 h1 hw
 unfold aX;rw[hre,hpk,hma,hc];rfl
theorem aAo(hn:1<=n)(hL:2^60<=L){cov mids ends:List Str}(hP:Parts cov mids ends){i q:Nat}{c mm:Str}(hc:c.length<=1000)(hmm:mm.length<=1000){k:KE R}:∀(j p m:Nat) (o:List Str) (hp:p+j=ends.length) (hm:j<m),
  aT env (aA env L n) L 0 [] Bz2 (jF 2) (U4 (Z4 (Z1 (U1 (Z1 (U1 (Z1 (U16 (U4 (U2 (Z2 (Z1 (U2 (U1 (Z2 (Z1 (U2 (U1 (Z2 (Z1 (U16 (U2 ([]))))))))))))))))))))))) m (Y4 (.d .nils::.d (.bool false)::.mp 0::.d (.ivs mids.length (aM mids))::.sl 1 0 0 ends.length::Y1 (.d (.str c)::Y1 (.d (.str mm)::Y16 (Y4 (Y2 (.sl 2 0 0 cov.length::nI (cov.length)::nI i::Y2 (Y1 (.d (.ivs mids.length (aM mids))::nI (mids.length)::nI q::Y2 (Y1 (.sl 1 0 0 ends.length::nI (ends.length)::nI p::Y16 (Y2 ([]))))))))))))) [.mp (setS o),.arr (aM ends) 1 0,.arr (aM cov) 1 0] k
  =k (.exit 4) (Y4 (.d .nils::.d (.bool false)::.mp 0::.d (.ivs mids.length (aM mids))::.sl 1 0 0 ends.length::Y1 (.d (.str c)::Y1 (.d (.str mm)::Y16 (Y4 (Y2 (.sl 2 0 0 cov.length::nI (cov.length)::nI i::Y2 (Y1 (.d (.ivs mids.length (aM mids))::nI (mids.length)::nI q::Y2 (Y1 (.sl 1 0 0 ends.length::nI (ends.length)::nI (ends.length)::Y16 (Y2 ([]))))))))))))) [.mp (setS (cY o (endL c mm (ends.drop p)))),.arr (aM ends) 1 0,.arr (aM cov) 1 0]:=by
 have hne:=hP.ne;intro j
 induction j with
 |zero=>
  intro p m o hp hm;obtain _|m:=m;omega;obtain rfl:p=ends.length:=om;have e:cY o (endL c mm (ends.drop ends.length))=o:=by rw[Bt];rfl
  rw[e]
  simp-implicitDefEqProofs (maxSteps:=9^7) (disch:=try exact Dz) only[↓DN,↓kRet,UP,simprocAttr,Ah,E6,AK,Tryz.f10]
 |succ j ih=>
  intro p m o hp hm;obtain _|m:=m;omega;have hk:p<ends.length:=om;have hc1:(p:Int)<ends.length:=om;have hp0:(0:Int)<=p:=om;have hel:=hP.e _ (d9 hk);have hcm:(c++mm).length<=2000:=by rw[Af];omega
  have e:cY o (endL c mm (ends.drop p))=cY (insW o (c++mm++ends.getD p [])) (endL c mm (ends.drop (p+1))):=by
   rw[b8 hk (d:=[])];rfl
  have ih':=ih (p+1) m (insW o (c++mm++ends.getD p [])) om om;rw[cs1 p]at ih';rw[e];clear ih e hP;generalize hei:ends.getD p []=w at *;generalize cY (insW o (c++mm++w)) (endL c mm (ends.drop (p+1)))=z at *
  simp-implicitDefEqProofs (maxSteps:=9^7) (disch:=try exact Dz) only[↓DN,↓kRet,UP,simprocAttr,SE,hc1,hp0,hei,aVI,↓ih',E6,AK,Tryz.f10]
theorem aAJ(hn:1<=n)(hL:2^60<=L){cov mids ends:List Str}(hP:Parts cov mids ends){i:Nat}{c:Str}(hc:c.length<=1000){k:KE R}:∀(j p m:Nat) (o:List Str) (hp:p+j=mids.length) (hm:j<m),
  aT env (aA env L n) L 0 [] Bz2 (jF 1) (U4 (Z4 (Z1 (U1 (Z1 (U16 (U8 (Z2 (Z1 (U2 (U1 (Z2 (Z1 (U16 (U8 ([])))))))))))))))) m (Y4 (.d .nils::.d (.bool false)::.mp 0::.d (.ivs mids.length (aM mids))::.sl 1 0 0 ends.length::Y1 (.d (.str c)::Y16 (Y8 (.sl 2 0 0 cov.length::nI (cov.length)::nI i::Y2 (Y1 (.d (.ivs mids.length (aM mids))::nI (mids.length)::nI p::Y16 (Y8 ([]))))))))) [.mp (setS o),.arr (aM ends) 1 0,.arr (aM cov) 1 0] k
  =k (if(run3 (midF c ends) mids j p o).1=true then .exit 2 else .ret) (Y4 (.d .nils::.d (.bool false)::.mp 0::.d (.ivs mids.length (aM mids))::.sl 1 0 0 ends.length::Y1 (.d (.str c)::Y16 (Y8 (.sl 2 0 0 cov.length::nI (cov.length)::nI i::Y2 (Y1 (.d (.ivs mids.length (aM mids))::nI (mids.length)::nI ((run3 (midF c ends) mids j p o).2.1:Int)::Y16 (Y8 ([]))))))))) [.mp (setS (run3 (midF c ends) mids j p o).2.2),.arr (aM ends) 1 0,.arr (aM cov) 1 0]:=by
 have hne:=hP.ne;have hnm:=hP.nm;intro j
 induction j with
 |zero=>
  intro p m o hp hm;obtain _|m:=m;omega;obtain rfl:p=mids.length:=om;have e:∀f,run3 f mids 0 mids.length o=(true,mids.length,o):=fun _=>rfl;rw[e];simp only[if_true]
  simp-implicitDefEqProofs (maxSteps:=9^7) (disch:=try exact Dz) only[↓DN,↓kRet,UP,simprocAttr,Ah,tP,sD,Tryz.f10]
 |succ j ih=>
  intro p m o hp hm;obtain _|m:=m;omega;have hk:p<mids.length:=om;have hc1:(p:Int)<mids.length:=om;have hp0:(0:Int)<=p:=om;have hml:=hP.m _ (d9 hk);have loop_c:=fun {R n k} hn=> @aAo R L n hn hL cov mids ends hP i p c (mids.getD p []) hc hml k ends.length 0 L o om om;rw[Ay]at loop_c;simp only[Ao]at loop_c;have hz:midF c ends (mids.getD p []) o=(!decide (3000<(cY o (endL c (mids.getD p []) ends)).length),cY o (endL c (mids.getD p []) ends)):=rfl
  by_cases hb1:3000<(cY o (endL c (mids.getD p []) ends)).length
  ·have hb2:(3000:Int)<(cY o (endL c (mids.getD p []) ends)).length:=om;rw[IT (by rw[hz,decide_eq_true hb1];rfl),hz];simp only[Ak,if_false];clear ih hz hP;generalize hei:mids.getD p []=w at *;generalize cY o (endL c w ends)=z at *
   simp-implicitDefEqProofs (maxSteps:=9^7) (disch:=try exact Dz) only[↓DN,↓kAsg,↓kRet,UP,simprocAttr,SE,hc1,hp0,hei,hb2,TW,↓loop_c,tP,sD,Tryz.f10]
  ·have hb2:¬(3000:Int)<(cY o (endL c (mids.getD p []) ends)).length:=om;rw[C9 (by rw[hz,decide_eq_false hb1];rfl),hz];have ih':=ih (p+1) m (cY o (endL c (mids.getD p []) ends)) om om;rw[cs1 p]at ih';simp only;clear ih hz hP;generalize hei:mids.getD p []=w at *;generalize cY o (endL c w ends)=z at *;generalize run3 (midF c ends) mids j (p+1) z=z2 at *
   simp-implicitDefEqProofs (maxSteps:=9^7) (disch:=try exact Dz) only[↓DN,↓kRet,UP,simprocAttr,SE,hc1,hp0,hei,hb2,TW,↓loop_c,↓ih',tP,sD,Tryz.f10]
theorem aAB(hn:1<=n)(hL:2^60<=L){cov mids ends:List Str}(hP:Parts cov mids ends){k:KE R}:∀(j p m:Nat) (o:List Str) (hp:p+j=cov.length) (hm:j<m),
  aT env (aA env L n) L 0 [] Bz2 (jF 0) (U4 (Z4 (Z1 (U16 (U8 (U2 (Z2 (Z1 (U16 (U8 (U4 (U2 ([]))))))))))))) m (Y4 (.d .nils::.d (.bool false)::.mp 0::.d (.ivs mids.length (aM mids))::.sl 1 0 0 ends.length::Y16 (Y8 (Y2 (.sl 2 0 0 cov.length::nI (cov.length)::nI p::Y16 (Y8 (Y4 (Y2 ([]))))))))) [.mp (setS o),.arr (aM ends) 1 0,.arr (aM cov) 1 0] k
  =k (if(run3 (covF mids ends) cov j p o).1=true then .exit 0 else .ret) (Y4 (.d .nils::.d (.bool false)::.mp 0::.d (.ivs mids.length (aM mids))::.sl 1 0 0 ends.length::Y16 (Y8 (Y2 (.sl 2 0 0 cov.length::nI (cov.length)::nI ((run3 (covF mids ends) cov j p o).2.1:Int)::Y16 (Y8 (Y4 (Y2 ([]))))))))) [.mp (setS (run3 (covF mids ends) cov j p o).2.2),.arr (aM ends) 1 0,.arr (aM cov) 1 0]:=by
 have hne:=hP.ne;have hnm:=hP.nm;have hnc:=hP.nc;intro j
 induction j with
 |zero=>
  intro p m o hp hm;obtain _|m:=m;omega;obtain rfl:p=cov.length:=om;have e:∀f,run3 f cov 0 cov.length o=(true,cov.length,o):=fun _=>rfl;rw[e];simp only[if_true]
  simp-implicitDefEqProofs (maxSteps:=9^7) (disch:=try exact Dz) only[↓DN,↓kRet,UP,simprocAttr,Ah,tF,sJ,Tryz.f10]
 |succ j ih=>
  intro p m o hp hm;obtain _|m:=m;omega;have hk:p<cov.length:=om;have hc1:(p:Int)<cov.length:=om;have hp0:(0:Int)<=p:=om;have hcl:=hP.c _ (d9 hk);have loop_c:=fun {R n k} hn=> @aAJ R L n hn hL cov mids ends hP p (cov.getD p []) hcl k mids.length 0 L o om om;simp only[Ao]at loop_c;have hz:covF mids ends (cov.getD p []) o=((run3 (midF (cov.getD p []) ends) mids mids.length 0 o).1,(run3 (midF (cov.getD p []) ends) mids mids.length 0 o).2.2):=rfl
  cases hb:(run3 (midF (cov.getD p []) ends) mids mids.length 0 o).1 with
  |false=>
   rw[IT (by rw[hz,hb]),hz];rw[hb]at loop_c;simp only[Ak,if_false]at loop_c|-;clear ih hz hb hP;generalize hei:cov.getD p []=w at *;generalize run3 (midF w ends) mids mids.length 0 o=z at *
   simp-implicitDefEqProofs (maxSteps:=9^7) (disch:=try exact Dz) only[↓DN,↓kRet,UP,simprocAttr,SE,hc1,hp0,hei,↓loop_c,tF,sJ,Tryz.f10]
  |true=>
   rw[C9 (by rw[hz,hb]),hz];have ih':=ih (p+1) m (run3 (midF (cov.getD p []) ends) mids mids.length 0 o).2.2 om om;rw[cs1 p]at ih';rw[hb]at loop_c;simp only[if_true]at loop_c|-;clear ih hz hb hP;generalize hei:cov.getD p []=w at *;generalize run3 (midF w ends) mids mids.length 0 o=z at *;generalize run3 (covF mids ends) cov j (p+1) z.2.2=z2 at *
   simp-implicitDefEqProofs (maxSteps:=9^7) (disch:=try exact Dz) only[↓DN,↓kRet,UP,simprocAttr,SE,hc1,hp0,hei,↓loop_c,↓ih',tF,sJ,Tryz.f10]
theorem aQ3{a:Aut}(h:AOK a){e:Nat}(he:e<=2):0<(cY [] (covL (cL a) (midG (aB a.al) (e+1)) (sepW a))).length/\∀s∈cY [] (covL (cL a) (midG (aB a.al) (e+1)) (sepW a)),s.length<=4294967296:=by
 obtain⟨_,_,a1,a2,_⟩:=aR h
 have key:∀s,s∈cY [] (covL (cL a) (midG (aB a.al) (e+1)) (sepW a))↔∃c∈cL a,∃m∈midG (aB a.al) (e+1),∃w∈sepW a,s=c++m++w:=by
  intro s;rw[YW];simp only[Bu,false_or,covL,midL,endL,Eb,Bd]
  constructor
  ·rintro⟨c,hc,m,hm,e,he,rfl⟩;exact⟨c,hc,m,hm,e,he,rfl⟩
  ·rintro⟨c,hc,m,hm,e,he,rfl⟩;exact⟨c,hc,m,hm,e,he,rfl⟩
 constructor
 ·have h1:=H1 h;have h2:=UT h
  have h3:∀k,[]∈midG (aB a.al) k:=by
   intro k
   induction k with
   |zero=>simp[midG]
   |succ k ih=>exact Ap.2 (.inl ih)
  exact Ek ((key _).2 ⟨_,d9 (k:=0) om,_,h3 _,_,d9 (k:=0) om,rfl⟩)
 ·intro s hs;obtain⟨c,hc,m,hm,w,hw,rfl⟩:=(key s).1 hs;have:=(aEz h hc hm hw).1;omega
theorem aFo(hn:15<=n)(a:Aut)(hv:AOK a)(e:Nat)(he:e<=2)(hL:2^60<=L):aA env L n 10 [.agg [nI a.al,.d (.ivs a.nx.length (aE a.nx)),.d (.ivs a.ac.length (aD a.ac))],nI e] []=match dE a e with
  |some l=>some (.tup [.sl 0 0 0 l.length,.d (.bool true)],[.arr (aM l) 1 0])
  |none=>some (.tup [.d (.ivs 0 []),.d (.bool false)],[]):=by
 obtain⟨sa,wa,a1,a2,a3⟩:=aR hv;have hrl:=sa.1;have hP:=aM2 hv he;have e1:dE a e=tL (cL a) (midG (aB a.al) (e+1)) (sepW a):=if_pos ⟨hv,by omega,by omega⟩;rw[e1];have kc_c:=fun {R:Type} {n:Nat} {hq:H} {k:KA R} (hn:10<=n)=>aBW (h:=hq) (k:=k) rfl wD (aFh (L:=L) hn a hv hL);have kc_w:=fun {R:Type} {n:Nat} {hq:H} {k:KA R} (hn:10<=n)=>aBW (h:=hq) (k:=k) rfl nC (TR (L:=L) hn a hv hL);have kc_m:=@aHj L a.al (e+1) om hL;rw[cs1 e]at kc_m;have hcn:=hP.nc;have loop_c:=fun {R n k} hn=> @aAB R L n hn hL _ _ _ hP k (cL a).length 0 L [] om om;have es:setS []=[]:=rfl;rw[es]at loop_c;have hr:=SM (f:=covF (midG (aB a.al) (e+1)) (sepW a)) (ws:=cL a) (cL a).length 0 [] om;rw[Ay]at hr;have hs:=aPl (cov:=cL a) (mids:=midG (aB a.al) (e+1)) (ends:=sepW a);rw[hr]at hs;rw[aOQ]at hr;obtain⟨f1,f2⟩:=aQ3 hv he;have he0:(0:Int)<=e:=om;have hx0:¬(e:Int)<0:=om;have hx1:¬2<(e:Int):=om;have hve:cD a.al a.nx a.ac=true:=hv;simp only[Ao]at loop_c;rw[<-hs];have hac:a.ac.length<=4294967296:=om;clear hs e1 hP wa;generalize cY [] (covL (cL a) (midG (aB a.al) (e+1)) (sepW a))=S at *;generalize cL a=cov at *;generalize midG (aB a.al) (e+1)=mids at *;generalize sepW a=ends at *;generalize run3 (covF mids ends) cov cov.length 0 []=z at *
 cases hb:z.1 with
 |false=>
  rw[hb]at loop_c;simp only[Dd,Ak,if_false]at loop_c|-;obtain _|n:=n;omega
  simp-implicitDefEqProofs (maxSteps:=9^7) (disch:=try exact Dz) only[↓DN,↓kAsg,↓kRet,UP,simprocAttr,↓bB,hve,hx0,hx1,↓kc_c,↓kc_w,↓kc_m,↓loop_c,oG,mH,Tryz.f10]
 |true=>
  rw[hb]at loop_c hr;simp only[if_true]at loop_c hr|-
  have hS:S=z.2.2/\S.length<=3000:=by
   split at hr
   ·cases hr
   ·injection hr with hr;exact⟨hr,by omega⟩
  obtain⟨rfl,hS2⟩:=hS;have kc_q:=fun {R:Type} {n:Nat} {x y:O} {k:KA R} (hn:1<=n)=> @aRZ R L n z.2.2 x y k hn f1 om f2;have hml:(z.2.2.mergeSort leX).length=z.2.2.length:=List.length_mergeSort _;rw[<-hml]at kc_q;simp only[Az];clear hr f1 f2;generalize z.2.2.mergeSort leX=l at *;have e4:(aM l).take l.length=aM l:=iD (Ab _);obtain _|n:=n;omega
  simp-implicitDefEqProofs (maxSteps:=9^7) (disch:=try exact Dz) only[↓DN,↓kAsg,↓kRet,UP,simprocAttr,↓bB,hve,hx0,hx1,↓kc_c,↓kc_w,↓kc_m,↓aU0,↓kc_q,↓loop_c,oG,mH,Tryz.f10]
theorem aHR(hn:15<=n)(a:Aut)(x:Int)(hs:aW a.nx)(hac:a.ac.length<=4294967296)(hv:¬(cD a.al a.nx a.ac=true/\0<=x/\x<=2))(hL:2^60<=L):aA env L n 10 [.agg [nI a.al,.d (.ivs a.nx.length (aE a.nx)),.d (.ivs a.ac.length (aD a.ac))],nI x] []=some (.tup [.d (.ivs 0 []),.d (.bool false)],[]):=by
 have hrl:=hs.1
 cases hve:cD a.al a.nx a.ac with
 |false=>
  obtain _|n:=n;omega
  simp-implicitDefEqProofs (maxSteps:=9^7) (disch:=try exact Dz) only[↓DN,↓kAsg,↓kRet,UP,simprocAttr,↓bB,hve,oG,mH,Tryz.f10]
 |true=>
  by_cases hx0:x<0
  ·obtain _|n:=n;omega
   simp-implicitDefEqProofs (maxSteps:=9^7) (disch:=try exact Dz) only[↓DN,↓kAsg,↓kRet,UP,simprocAttr,↓bB,hve,hx0,oG,mH,Tryz.f10]
  ·have hx1:2<x:=by
    apply Ec;intro h;exact hv ⟨hve,by omega,by omega⟩
   obtain _|n:=n;omega
   simp-implicitDefEqProofs (maxSteps:=9^7) (disch:=try exact Dz) only[↓DN,↓kAsg,↓kRet,UP,simprocAttr,↓bB,hve,hx0,hx1,oG,mH,Tryz.f10]
theorem CS(hn:15<=n)(a:Aut)(x:Int)(hs:aW a.nx)(hac:a.ac.length<=4294967296)(hL:2^60<=L):aA env L n 10 [.agg [nI a.al,.d (.ivs a.nx.length (aE a.nx)),.d (.ivs a.ac.length (aD a.ac))],nI x] []=match dE a x with
  |some l=>some (.tup [.sl 0 0 0 l.length,.d (.bool true)],[.arr (aM l) 1 0])
  |none=>some (.tup [.d (.ivs 0 []),.d (.bool false)],[]):=by
 by_cases hv:cD a.al a.nx a.ac=true/\0<=x/\x<=2
 ·obtain⟨e,rfl⟩:∃e:Nat,x=e:=⟨x.toNat,by omega⟩
  exact aFo hn a hv.1 e om hL
 ·rw[aHR hn a x hs hac hv hL,show dE a x=none from if_neg hv]
end
end Ev
end Go.Proofs.YthlkcebdfbjdoaaGreatDoor
