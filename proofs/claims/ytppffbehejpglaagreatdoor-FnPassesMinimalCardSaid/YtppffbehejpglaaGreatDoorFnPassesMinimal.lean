/-
  Nodes that words lead to, numbered in the order of their first words: the program's way (with a map).
-/
import Derived.Test.YtppffbehejpglaaGreatDoorTrimL
import Derived.Test.YtppffbehejpglaaGreatDoorNetX
import Derived.Test.YtppffbehejpglaaGreatDoorPathZ
import Derived.Test.YtppffbehejpglaaGreatDoorClassW
import Derived.Test.YtppffbehejpglaaGreatDoorAnyD
set_option linter.unusedSimpArgs false
set_option linter.unusedVariables false
set_option linter.unusedSectionVars false
set_option maxRecDepth 8000
set_option maxHeartbeats 4000000
namespace Go.Proofs.YtppffbehejpglaaGreatDoor
namespace Ev
section
def numG:List Int->Nat->List (D×D)
 | [],_=>[]
 |x::o,i=>(.int .i64 x,.int .i64 (i:Nat))::numG o (i+1)
def numM(o:List Int):List (D×D):=numG o 0
theorem aML:∀(o:List Int) (x:Int) (i:Nat),numG (o++[x]) i=numG o i++[(.int .i64 x,.int .i64 ((i+o.length:Nat):Int))]
 | [],x,i=>by simp[numG]
 |y::o,x,i=>by
  simp only[Ax,numG,aML o x (i+1),Ae];rw[show i+1+o.length=i+(o.length+1) by omega]
theorem aHC{x:Int}{k:IntKind}:∀(o:List Int) (i c:Nat),nR (.int k) (.int .i64 x) (numG o i) c=some (if x∈o then some (c+o.idxOf x)else none)
 | [],i,c=>by simp[numG,nR]
 |y::o,i,c=>by
  simp only[numG,nR,IG,if_true]
  by_cases h:x=y
  ·subst h;simp
  ·have h2:(x==y)=false:=by simpa using h
   have h3:(y==x)=false:=by simpa using fun e:y=x=>h e.symm
   rw[h2];simp only[aHC o (i+1) (c+1),Au,h,false_or,List.idxOf_cons,h3,cond_false]
   by_cases hm:x∈o
   ·rw[if_pos hm,if_pos hm,show c+1+o.idxOf x=c+(o.idxOf x+1) by omega]
   ·rw[if_neg hm,if_neg hm]
theorem aMm:∀(o:List Int) (i q:Nat) (z:D×D),q<o.length->((numG o i).getD q z).2=.int .i64 ((i+q:Nat):Int)
 | [],_,_,_,h=>by simp at h
 |x::o,i,0,z,_=>by simp[numG]
 |x::o,i,q+1,z,h=>by
  simp only[numG,Er];rw[aMm o (i+1) q z (by simpa using h),show i+1+q=i+(q+1) by omega]
theorem aOR:mapT env.P 129=some (.int .i64,3):=kr
theorem aUX:dA env.P 3=some (nI 0):=kr
theorem aUs{h:H}{id:Nat}{o:List Int}{x:Int}(hi:h[id]? =some (.mp (numM o))):
  oI env.P h 129 true (.mp id) (nI x)=some (.tup [nI (if x∈o then idxU o x else 0),.d (.bool (decide (x∈o)))],h):=by
 unfold oI numM at *;simp only[aOR,hi,aUX,ID,qI,decide_true,Bq,if_true,aHC]
 by_cases hm:x∈o
 ·obtain⟨_,hq⟩:=oY hm;simp only[if_pos hm,z8,uR,if_true,Cv,Ag,aMm o 0 _ _ hq,idxU,decide_eq_true hm]
 ·simp only[if_neg hm,z8,uR,if_true,Cn,decide_eq_false hm]
theorem aO6{h:H}{id:Nat}{o:List Int}{x:Int}(hi:h[id]? =some (.mp (numM o)))(hx:x∉o):
  d6 env.P h 129 (.mp id) (nI x) (nI (o.length:Int))=some (.d .undef,h.set id (.mp (numM (o++[x])))):=by
 unfold d6;unfold numM at *;simp only[aOR,hi,ID,qI,decide_true,Bq,if_true,aHC,if_neg hx,qR,aML,Ag]
theorem aKc{a:O}{T:H}{o:List Int}{x:Int}:oI env.P (a::.mp (numM o)::T) 129 true (.mp 1) (nI x)=some (.tup [nI (if x∈o then idxU o x else 0),.d (.bool (decide (x∈o)))],a::.mp (numM o)::T):=aUs rfl
theorem aTI{a:O}{T:H}{o:List Int}{x:Int}(hx:x∉o):d6 env.P (a::.mp (numM o)::T) 129 (.mp 1) (nI x) (nI (o.length:Int))=some (.d .undef,a::.mp (numM (o++[x]))::T):=aO6 rfl hx
theorem aTs{a:O}{T:H}{x:Int}:d6 env.P (a::.mp []::T) 129 (.mp 1) (nI x) (nI 0)=some (.d .undef,a::.mp (numM [x])::T):=aO6 (o:=[]) (h:=a::.mp []::T) rfl smp
theorem ZM{f:Int->Int}{r:List Int}{k:Nat}(h:k<r.length):(r.drop k).map f=f (r.getD k 0)::(r.drop (k+1)).map f:=by
 rw[cC h (d:=0)];rfl
theorem aTl(o:List Int)(x:Int):∃t,addU o x=o++t:=by
 unfold addU
 split
 ·exact⟨[],by simp⟩
 ·exact⟨[x],rfl⟩
theorem aUT(o:List Int)(x:Int):x∈addU o x:=by
 unfold addU
 split
 ·assumption
 ·simp
theorem UA:∀(xs o:List Int),∃t,rowU o xs=o++t
 | [],o=>⟨[],by simp[rowU]⟩
 |x::xs,o=>by
  obtain⟨t,ht⟩:=aTl o x;obtain⟨u,hu⟩:=UA xs (addU o x);refine⟨t++u,?_⟩;show rowU (addU o x) xs=_;rw[hu,ht,Ao]
theorem aHr{o t:List Int}{x:Int}(h:x∈o):idxU (o++t) x=idxU o x:=by
 unfold idxU;rw[List.idxOf_append,if_pos h]
theorem aVW{o t:List Int}{x:Int}(h:x∉o):idxU (o++[x]++t) x=o.length:=by
 rw[aHr smp];unfold idxU;rw[List.idxOf_append,if_neg h];simp
theorem X9(o xs:List Int)(x:Int):rowU o (x::xs)=rowU (addU o x) xs:=rfl
theorem aLu:∀(xs o:List Int) (x:Int),x∈xs->x∈rowU o xs
 |y::xs,o,x,h=>by
  rw[X9]
  rcases Au.1 h with rfl|h
  ·obtain⟨t,ht⟩:=UA xs (addU o x);rw[ht];exact Ea _ (aUT o x)
  ·exact aLu xs _ x h
theorem aNw{n0:Nat}:∀(xs o:List Int),o.Nodup->(∀x∈o,0<=x/\x<n0)->(∀x∈xs,0<=x/\x<n0)->(rowU o xs).Nodup/\∀x∈rowU o xs,0<=x/\x<n0
 | [],o,h1,h2,_=>⟨h1,h2⟩
 |y::xs,o,h1,h2,h3=>by
  rw[X9];refine aNw xs _ ?_ ?_ fun x hx=>h3 x (Az _ hx)
  ·unfold addU
   split
   ·exact h1
   ·rename_i hin
    rw[Dm];refine⟨h1,by simp,fun x hx z hz=> ?_⟩;simp only[Bf]at hz;subst hz;rintro rfl;exact hin hx
  ·intro x hx;unfold addU at hx
   split at hx
   ·exact h2 x hx
   ·rcases Ak.1 hx with hx|hx
    ·exact h2 x hx
    ·simp only[Bf]at hx;subst hx;exact h3 _ Bd
section
variable{nx:Int->Int->Int}{nf:FuncId}{caps:List D}{n0:Nat}
theorem aGG{R:Type}{L n:Nat}(hn:4<=n)(hL:2^60<=L)(hsz:n0<=4096){ls:List Int}(hll:ls.length<=6){v:Int}{i:Nat}
  (kc_n:∀ {R:Type} {n:Nat} {hq:H} {k:KA R} (c:Int),3<=n->c∈ls->aX env (aA env L n) hq nf (nI v::nI c::caps.map A.d) k=k (nI (nx v c)) hq)
  (hv:∀c∈ls,0<=nx v c/\nx v c<n0) {d:List D} {dl:Nat} {k:KE R}:∀(j q m:Nat) (o r:List Int) (len rl:Nat) (hq:q+j=ls.length) (hm:j<m) (hlen:len=o.length) (hrl:rl=r.length) (hr:r.length+j<=100) (hnd:o.Nodup) (hrg:∀x∈o,0<=x/\x<n0) (hi:i<o.length) (hvo:o.getD i 0=v),
  aT env (aA env L n) L 0 (W8 (W4 (W1 [2,0,2]))) Bz9 (iO 1) (U1 (Z2 (Z1 (U4 (Z8 (U16 (Z2 (Z1 (U32 (U8 (U2 ([])))))))))))) m (Y1 (.d (.ivs ls.length (ints ls))::nI n0::.d (.fn nf caps)::Y4 (.d .nils::.d .nils::.d (.bool false)::.sl 0 0 0 len::.mp 1::.sl 2 0 0 dl::nI i::.sl 3 0 0 rl::Y16 (.d (.ivs ls.length (ints ls))::nI (ls.length:Int)::nI q::Y32 (Y8 (Y2 ([]))))))) [.arr (ints o) 1 0,.mp (numM o),.arr d 1 0,.arr (ints r) 1 0] k
  =k (.exit 2) (Y1 (.d (.ivs ls.length (ints ls))::nI n0::.d (.fn nf caps)::Y4 (.d .nils::.d .nils::.d (.bool false)::.sl 0 0 0 (rowU o ((ls.drop q).map (nx v))).length::.mp 1::.sl 2 0 0 dl::nI i::.sl 3 0 0 (r++((ls.drop q).map (nx v)).map (idxU (rowU o ((ls.drop q).map (nx v))))).length::Y16 (.d (.ivs ls.length (ints ls))::nI (ls.length:Int)::nI (ls.length:Int)::Y32 (Y8 (Y2 ([]))))))) [.arr (ints (rowU o ((ls.drop q).map (nx v)))) 1 0,.mp (numM (rowU o ((ls.drop q).map (nx v)))),.arr d 1 0,.arr (ints (r++((ls.drop q).map (nx v)).map (idxU (rowU o ((ls.drop q).map (nx v)))))) 1 0]:=by
 intro j
 induction j with
 |zero=>
  intro q m o r len rl hq hm hlen hrl hr hnd hrg hi hvo;obtain _|m:=m;omega;obtain rfl:q=ls.length:=om;subst hlen;subst hrl;rw[Bu];simp only[As,Ai,rowU,List.foldl_nil]
  simp-implicitDefEqProofs (maxSteps:=9^7) (disch:=try exact Dz) only[↓DN,↓kRet,UP,simprocAttr,Ah,o6,mO,Tryz.f90]
 |succ j ih=>
  intro q m o r len rl hq hm hlen hrl hr hnd hrg hi hvo;obtain _|m:=m;omega;subst hlen;subst hrl;have hk:q<ls.length:=om;have hc:(q:Int)<ls.length:=om;have hq0:(0:Int)<=q:=om;have hio:(i:Int)<o.length:=om;have hi0:(0:Int)<=i:=om;have hmem:ls.getD q 0∈ls:=jH hk;obtain⟨t0,t1⟩:=hv _ hmem;have kc_x:=fun {R:Type} {n:Nat} {hq:H} {k:KA R} (hn:3<=n)=> @kc_n R n hq k (ls.getD q 0) hn hmem;have hol:=dX hnd hrg;rw[ZM hk,X9];obtain⟨T,hT⟩:=UA ((ls.drop (q+1)).map (nx v)) (addU o (nx v (ls.getD q 0)));have hr100:r.length<=100:=om
  by_cases hin:nx v (ls.getD q 0)∈o
  ·have hadd:addU o (nx v (ls.getD q 0))=o:=by unfold addU;rw[if_pos hin]
   rw[hadd]at hT|-;have ih':=ih (q+1) m o (r++[idxU o (nx v (ls.getD q 0))]) o.length (r.length+1) om om rfl smp (by simp;omega) hnd hrg hi hvo;rw[cs1 q]at ih';have he:idxU (rowU o ((ls.drop (q+1)).map (nx v))) (nx v (ls.getD q 0))=idxU o (nx v (ls.getD q 0)):=by rw[hT,aHr hin]
   simp only[Aj,he];simp only[Ao,Do]at ih';clear ih he hT hadd kc_n hv hnd hrg;generalize rowU o ((ls.drop (q+1)).map (nx v))=w at *;generalize((ls.drop (q+1)).map (nx v)).map (idxU w)=w2 at *;generalize nx v (ls.getD q 0)=x at *
   simp-implicitDefEqProofs (maxSteps:=9^7) (disch:=try exact Dz) only[↓DN,↓kRet,UP,simprocAttr,hc,hq0,hio,hi0,hvo,↓kc_x,aKc,hin,↓ih',o6,mO,Tryz.f90]
  ·have hadd:addU o (nx v (ls.getD q 0))=o++[nx v (ls.getD q 0)]:=by unfold addU;rw[if_neg hin]
   rw[hadd]at hT|-
   have hnd2:(o++[nx v (ls.getD q 0)]).Nodup:=by
    rw[Dm];refine⟨hnd,by simp,fun x hx y hy=> ?_⟩;simp only[Bf]at hy;subst hy;rintro rfl;exact hin hx
   have hrg2:∀x∈o++[nx v (ls.getD q 0)],0<=x/\x<n0:=by
    intro x hx
    rcases Ak.1 hx with hx|hx
    ·exact hrg x hx
    ·simp only[Bf]at hx;subst hx;exact⟨t0,t1⟩
   have hol2:=dX hnd2 hrg2;rw[Af]at hol2;simp only[Ae,Ac,Ag]at hol2;have hlim:¬((o.length:Int)=n0):=om;have ih':=ih (q+1) m (o++[nx v (ls.getD q 0)]) (r++[(o.length:Int)]) (o.length+1) (r.length+1) om om smp smp (by simp;omega) hnd2 hrg2 (by simp;omega) (by rw[kC hi];exact hvo);rw[cs1 q]at ih';have he:idxU (rowU (o++[nx v (ls.getD q 0)]) ((ls.drop (q+1)).map (nx v))) (nx v (ls.getD q 0))=o.length:=by rw[hT,aVW hin]
   simp only[Aj,he];simp only[Ao,Do]at ih';clear ih he hT hadd kc_n hv hnd hrg hnd2 hrg2;generalize rowU (o++[nx v (ls.getD q 0)]) ((ls.drop (q+1)).map (nx v))=w at *;generalize((ls.drop (q+1)).map (nx v)).map (idxU w)=w2 at *;generalize nx v (ls.getD q 0)=x at *
   simp-implicitDefEqProofs (maxSteps:=9^7) (disch:=try exact Dz) only[↓DN,↓kRet,UP,simprocAttr,hc,hq0,hio,hi0,hvo,↓kc_x,aKc,aTI,hin,hlim,↓ih',o6,mO,Tryz.f90]
theorem aHg{R:Type}{L n:Nat}(hn:4<=n)(hL:2^60<=L)(hsz:n0<=4096){ls:List Int}(hll:ls.length<=6)
  (kc_n:∀ {R:Type} {n:Nat} {hq:H} {k:KA R} (v c:Int),3<=n->0<=v->v<n0->c∈ls->aX env (aA env L n) hq nf (nI v::nI c::caps.map A.d) k=k (nI (nx v c)) hq)
  (hv:∀v c:Int,0<=v->v<n0->c∈ls->0<=nx v c/\nx v c<n0) {k:KE R}:∀(j i m:Nat) (o:List Int) (d:List (List Int)) (len dl:Nat) (hi:i<=o.length) (hj:n0<i+j) (hm:j<m) (hlen:len=o.length) (hdl:i=dl) (hd:d=(o.take i).map fun v=>(ls.map (nx v)).map (idxU o)) (hcl:∀v∈o.take i,∀l∈ls,nx v l∈o) (hnd:o.Nodup) (hrg:∀x∈o,0<=x/\x<n0),
  aT env (aA env L n) L 0 (W8 (W4 (W1 [2,0,2]))) Bz9 (iO 0) Bz31 m (Y1 (.d (.ivs ls.length (ints ls))::nI n0::.d (.fn nf caps)::Y4 (.d .nils::.d .nils::.d (.bool false)::.sl 0 0 0 len::.mp 1::.sl 2 0 0 dl::nI i::Y32 (Y16 (Y8 (Y4 (Y2 ([])))))))) [.arr (ints o) 1 0,.mp (numM o),.arr (aE d) 1 0] k
  =k (.exit 0) (Y1 (.d (.ivs ls.length (ints ls))::nI n0::.d (.fn nf caps)::Y4 (.d .nils::.d .nils::.d (.bool false)::.sl 0 0 0 (ordB nx ls j i o).length::.mp 1::.sl 2 0 0 (ordB nx ls j i o).length::nI ((ordB nx ls j i o).length:Int)::Y32 (Y16 (Y8 (Y4 (Y2 ([])))))))) [.arr (ints (ordB nx ls j i o)) 1 0,.mp (numM (ordB nx ls j i o)),.arr (aE ((ordB nx ls j i o).map fun v=>(ls.map (nx v)).map (idxU (ordB nx ls j i o)))) 1 0]:=by
 have last:∀(i m:Nat) (o:List Int) (d:List (List Int)) (len dl:Nat),i=o.length->0<m->len=o.length->i=dl->aT env (aA env L n) L 0 (W8 (W4 (W1 [2,0,2]))) Bz9 (iO 0) Bz31 m (Y1 (.d (.ivs ls.length (ints ls))::nI n0::.d (.fn nf caps)::Y4 (.d .nils::.d .nils::.d (.bool false)::.sl 0 0 0 len::.mp 1::.sl 2 0 0 dl::nI i::Y32 (Y16 (Y8 (Y4 (Y2 ([])))))))) [.arr (ints o) 1 0,.mp (numM o),.arr (aE d) 1 0] k
  =k (.exit 0) (Y1 (.d (.ivs ls.length (ints ls))::nI n0::.d (.fn nf caps)::Y4 (.d .nils::.d .nils::.d (.bool false)::.sl 0 0 0 o.length::.mp 1::.sl 2 0 0 o.length::nI (o.length:Int)::Y32 (Y16 (Y8 (Y4 (Y2 ([])))))))) [.arr (ints o) 1 0,.mp (numM o),.arr (aE d) 1 0]:=by
  intro i m o d len dl hi hm hlen hdl;obtain _|m:=m;omega;subst hdl;subst hi;subst hlen
  simp-implicitDefEqProofs (maxSteps:=9^7) (disch:=try exact Dz) only[↓DN,↓kRet,UP,simprocAttr,Ah,yV,tQ,Tryz.f90]
 intro j
 induction j with
 |zero=>
  intro i m o d len dl hi hj hm hlen hdl hd hcl hnd hrg;have:=dX hnd hrg;omega
 |succ j ih=>
  intro i m o d len dl hi hj hm hlen hdl hd hcl hnd hrg;unfold ordB
  by_cases hlt:i<o.length
  ·obtain _|m:=m;omega;subst hlen;subst hdl;rw[if_pos hlt];obtain⟨v0,v1⟩:=hrg _ (jH hlt);have hol:=dX hnd hrg;obtain⟨T,hT⟩:=UA (ls.map (nx (o.getD i 0))) o
   have hres:=aNw (n0:=n0) (ls.map (nx (o.getD i 0))) o hnd hrg (by
    intro x hx;obtain⟨l,hl,rfl⟩:=Av.1 hx;exact hv _ l v0 v1 hl)
   have htk:(rowU o (ls.map (nx (o.getD i 0)))).take (i+1)=o.take i++[o.getD i 0]:=by
    rw[hT,List.take_append_of_le_length om,Cz,Ad hlt,Aa,Ad hlt];rfl
   have hd2:d++[(ls.map (nx (o.getD i 0))).map (idxU (rowU o (ls.map (nx (o.getD i 0)))))]=((rowU o (ls.map (nx (o.getD i 0)))).take (i+1)).map fun v=>(ls.map (nx v)).map (idxU (rowU o (ls.map (nx (o.getD i 0))))):=by
    rw[htk,Cm,hd]
    congr 1
    apply Cw;intro v hvm;apply Cw;intro x hx;obtain⟨l,hl,rfl⟩:=Av.1 hx;rw[hT,aHr (hcl v hvm l hl)]
   have hcl2:∀v∈(rowU o (ls.map (nx (o.getD i 0)))).take (i+1),∀l∈ls,nx v l∈rowU o (ls.map (nx (o.getD i 0))):=by
    intro v hvm l hl;rw[htk]at hvm
    rcases Ak.1 hvm with hvm|hvm
    ·rw[hT];exact Ea _ (hcl v hvm l hl)
    ·simp only[Bf]at hvm;subst hvm;exact aLu _ _ _ (Av.2 ⟨l,hl,rfl⟩)
   have hge:o.length<=(rowU o (ls.map (nx (o.getD i 0)))).length:=by rw[hT];simp
   have hdlen:d.length=i:=by rw[hd,Am,Bi];omega
   have loop_c:=fun {R:Type} {n:Nat} {k:KE R} (hn:4<=n)=> @aGG nx nf caps n0 R L n hn hL hsz ls hll (o.getD i 0) i (fun {R n hq k} c h3 hc=>kc_n _ c h3 v0 v1 hc) (fun c hc=>hv _ c v0 v1 hc) (aE d) i k ls.length 0 L o [] o.length 0 om om rfl rfl (by rw[Ac];omega) hnd hrg hlt rfl;rw[Ba]at loop_c;have ih':=ih (i+1) m (rowU o (ls.map (nx (o.getD i 0)))) _ _ (i+1) om om om rfl rfl hd2 hcl2 hres.1 hres.2;rw[cs1 i]at ih';simp only[Ap,Aq,kG]at loop_c;have hc:(i:Int)<o.length:=om;have hi0:(0:Int)<=i:=om;have hi12:i<=4096:=om;have hw2l:((ls.map (nx (o.getD i 0))).map (idxU (rowU o (ls.map (nx (o.getD i 0)))))).length<=6:=by rw[Am,Am];exact hll
   clear ih hd hcl hnd hrg last hd2 hcl2 hres htk hT kc_n hv;generalize(ls.map (nx (o.getD i 0))).map (idxU (rowU o (ls.map (nx (o.getD i 0)))))=w2 at *;generalize rowU o (ls.map (nx (o.getD i 0)))=w at *;generalize ordB nx ls j (i+1) w=z at *;have ht:(aE d).take i=aE d:=kX om;have hwt:(ints w2).take w2.length=ints w2:=by rw[cK (Ab _)]
   simp-implicitDefEqProofs (maxSteps:=9^7) (disch:=try exact Dz) only[↓DN,↓kAsg,↓kRet,UP,simprocAttr,LA,hc,↓loop_c,ht,hwt,pJ,↓ih',yV,tQ,Tryz.f90]
  ·rw[if_neg hlt];have hio:i=o.length:=om;have hd3:d=o.map fun v=>(ls.map (nx v)).map (idxU o):=by rw[hd,hio,Cu]
   rw[last i m o d len dl hio om hlen hdl,hd3]
theorem aBW{L n:Nat}(hn:5<=n)(hL:2^60<=L)(h0:0<n0)(hsz:n0<=4096){ls:List Int}(hll:ls.length<=6)
  (kc_n:∀ {R:Type} {n:Nat} {hq:H} {k:KA R} (v c:Int),3<=n->0<=v->v<n0->c∈ls->aX env (aA env L n) hq nf (nI v::nI c::caps.map A.d) k=k (nI (nx v c)) hq)
  (hv:∀v c:Int,0<=v->v<n0->c∈ls->0<=nx v c/\nx v c<n0):
  aA env L n 90 [nI 0,.d (.ivs ls.length (ints ls)),nI n0,.d (.fn nf caps)] []=some (.tup [.d (.ivs (ordB nx ls (n0+1) 0 [0]).length (ints (ordB nx ls (n0+1) 0 [0]))),.d (.ivs (ordB nx ls (n0+1) 0 [0]).length (aE ((ordB nx ls (n0+1) 0 [0]).map fun v=>(ls.map (nx v)).map (idxU (ordB nx ls (n0+1) 0 [0]))))),.d (.bool true)],[]):=by
 have loop_c:=fun {R:Type} {n:Nat} {k:KE R} (hn:4<=n)=> @aHg nx nf caps n0 R L n hn hL hsz ls hll (fun {R n hq k}=>kc_n) hv k (n0+1) 0 L [0] [] 1 0 om om om rfl rfl rfl (by intro v hv;cases hv) smp (by intro x hx;simp only[Bf]at hx;subst hx;omega);have e:ints [0]=[.int .i64 0]:=rfl;simp only[Ap,F3,e]at loop_c;have hdl:((ordB nx ls (n0+1) 0 [0]).map fun v=>(ls.map (nx v)).map (idxU (ordB nx ls (n0+1) 0 [0]))).length=(ordB nx ls (n0+1) 0 [0]).length:=Am _;generalize((ordB nx ls (n0+1) 0 [0]).map fun v=>(ls.map (nx v)).map (idxU (ordB nx ls (n0+1) 0 [0])))=d at *;generalize ordB nx ls (n0+1) 0 [0]=w at *;have e4:(ints w).take w.length=ints w:=by rw[cK (Ab _)]
 have e5:(aE d).take w.length=aE d:=kX om;have e6:(aE d).length=w.length:=by rw[jU,hdl]
 clear kc_n hv;obtain _|n:=n;omega
 simp-implicitDefEqProofs (maxSteps:=9^7) (disch:=try exact Dz) only[↓DN,↓kAsg,↓kRet,UP,simprocAttr,e4,e5,e6,↓loop_c,↓aOe,aTs,Ab,aB0,LH,Tryz.f90]
end
end
section
variable{R:Type}{L n:Nat}
theorem aLN(hn:1<=n){a:Aut}(ha:AOK a){x c:Int}(x0:0<=x)(x1:x<a.nx.length)(hc0:0<=c)(hc6:c<6):
  aA env L n 91 [nI x,nI c,.d (tabP a)] []=some (nI (goS a x c),[]):=by
 obtain⟨sa,wa,a1,a2,a3⟩:=aR ha;have hla:=hU a.al a.nx;have hta:=QW (al:=a.al) x0 x1 hc0 hc6;rw[Cl]at hta;unfold goS tabP;have d1:x.toNat*6<=a.nx.length*6:=om;have d3:c.toNat<a.nx.length*6-x.toNat*6:=om;generalize goI a.al a.nx x c=g1 at *;clear ha sa wa;obtain _|n:=n;omega
 simp-implicitDefEqProofs (maxSteps:=9^7) (disch:=try exact Dz) only[↓DN,↓kAsg,↓kRet,UP,simprocAttr,hla,hta,x0,x1,Cg,Cl,aLM,aDe,Tryz.f91]
theorem aP2{hq:H}{k:KA R}(hn:1<=n){a:Aut}(ha:AOK a){x c:Int}(x0:0<=x)(x1:x<a.nx.length)(hc:c∈aB a.al):
  aX env (aA env L n) hq 91 (nI x::nI c::[tabP a].map A.d) k=k (nI (goS a x c)) hq:=by
 have:=b9 c hc;exact bS rfl (aLN hn ha x0 x1 this.1 om) rfl (.inl rfl)
theorem aTM{a:Aut}(h:AOK a):((ordA a).map fun v=>((aB a.al).map (goS a v)).map (idxU (ordA a)))=(a7 a).nx:=by
 obtain⟨W,hB⟩:=gK h;unfold a7;apply Cw;intro v hv;obtain⟨v0,v1⟩:=hB.rng v hv;rw[DV h v0 v1]
theorem aWF{o0 o1 o2 o3 o4:O}{T:H}{k:KA R}(hn:5<=n)(hL:2^60<=L){a:Aut}(ha:AOK a):
  aX env (aA env L n) (o0::o1::o2::o3::o4::.box [.d (.ivs a.nx.length (ints (iI a.al a.nx)))]::T) 90 [nI 0,.d (.ivs (aB a.al).length (ints (aB a.al))),nI (a.nx.length:Int),.clo 91 [.ptr 5 0 0]] k
  =k (.tup [.d (.ivs (ordA a).length (ints (ordA a))),.d (.ivs (ordA a).length (aE (a7 a).nx)),.d (.bool true)]) (o0::o1::o2::o3::o4::.ice [.ivs a.nx.length (ints (iI a.al a.nx))] 1 0::T):=by
 obtain⟨sa,wa,a1,a2,a3⟩:=aR ha;have hev:=@aBW (goS a) 91 [tabP a] a.nx.length L n hn hL om om (aB a.al) (bO a.al) (fun {R n hq k} v c h3 v0 v1 hc=>aP2 om ha v0 v1 hc) (fun v c h0 h1 hc=>oA ha v c h0 h1 hc);have e1:ordB (goS a) (aB a.al) (a.nx.length+1) 0 [0]=ordA a:=rfl;rw[e1,aTM ha]at hev
 have hre:aF aI (o0::o1::o2::o3::o4::O.box [.d (.ivs a.nx.length (ints (iI a.al a.nx)))]::T) [5] []=[5]:=by
  have e1:aF aI (o0::o1::o2::o3::o4::O.box [.d (.ivs a.nx.length (ints (iI a.al a.nx)))]::T) [5] []=aF (aI-1) (o0::o1::o2::o3::o4::O.box [.d (.ivs a.nx.length (ints (iI a.al a.nx)))]::T) [] [5]:=rfl;rw[e1];rfl
 refine kP rR (ids:=[5]) (ord:=[5]) (blk:=[.box [.d (.ivs a.nx.length (ints (iI a.al a.nx)))]]) (blk2:=[.ice [.ivs a.nx.length (ints (iI a.al a.nx))] 1 0]) (fs:=[nI 0,.d (.ivs (aB a.al).length (ints (aB a.al))),nI (a.nx.length:Int),.d (.fn 91 [tabP a])]) ?_ hre rfl ?_ ?_ hev ?_ smp ?_
 ·rfl
 ·rfl
 ·rfl
 ·rfl
 ·simp[bJ,mapO]
theorem aCP{b:List Bool}{x:Bool}:aD b++[.bool x]=aD (b++[x]):=by simp[aD]
theorem aNN(hn:3<=n)(hL:2^60<=L){a:Aut}(ha:AOK a){o:List Int}(ho:o.length<=12)(hor:∀x∈o,0<=x/\x<a.nx.length){al2:Int}{nxd:D}{k:KE R}:∀(j i m:Nat) (b:List Bool) (len e:Nat) (hi:i+j=o.length) (hm:j<m) (hb:b=(o.take i).map fun v=>a.ac.getD v.toNat false) (hlen:i=len) (he:e=if i=0 then 0 else 1),
  aT env (aA env L n) L 0 [] Bz26 (Y5 0) (U1 (Z2 (U4 (Z1 (U16 (U2 (U1 (Z2 (Z1 (U8 (U4 (U2 (U1 ([])))))))))))))) m (Y1 (.ptr 0 0 0::.ptr 1 0 0::Y4 (.ptr 2 0 0::Y16 (Y2 (Y1 (.d (.ivs o.length (ints o))::nI (o.length:Int)::nI i::Y8 (Y4 (Y2 (Y1 ([])))))))))) [.box [nI a.al,.d (.ivs a.nx.length (aE a.nx)),.d (.ivs a.ac.length (aD a.ac))],.box [nI 0,.sl 3 0 0 0,.sl 4 0 0 0],.box [nI al2,.d nxd,.sl 5 0 0 len],.arr [] 0 0,.arr [] 0 0,.arr (aD b) e 0] k
  =k (.exit 0) (Y1 (.ptr 0 0 0::.ptr 1 0 0::Y4 (.ptr 2 0 0::Y16 (Y2 (Y1 (.d (.ivs o.length (ints o))::nI (o.length:Int)::nI (o.length:Int)::Y8 (Y4 (Y2 (Y1 ([])))))))))) [.box [nI a.al,.d (.ivs a.nx.length (aE a.nx)),.d (.ivs a.ac.length (aD a.ac))],.box [nI 0,.sl 3 0 0 0,.sl 4 0 0 0],.box [nI al2,.d nxd,.sl 5 0 0 o.length],.arr [] 0 0,.arr [] 0 0,.arr (aD (o.map fun v=>a.ac.getD v.toNat false)) (if o.length=0 then 0 else 1) 0]:=by
 obtain⟨sa,wa,a1,a2,a3⟩:=aR ha;have hal:=sa.1;intro j
 induction j with
 |zero=>
  intro i m b len e hi hm hb hlen he;obtain _|m:=m;omega;obtain rfl:i=o.length:=om;rw[Cu]at hb;subst hb;subst hlen;subst he
  simp-implicitDefEqProofs (maxSteps:=9^7) (disch:=try exact Dz) only[↓DN,↓kRet,UP,simprocAttr,Ah,G7,IB,Tryz.f54]
 |succ j ih=>
  intro i m b len e hi hm hb hlen he;obtain _|m:=m;omega;subst hlen;have hio:i<o.length:=om;obtain⟨v0,v1⟩:=hor _ (jH hio)
  have htk:o.take (i+1)=o.take i++[o.getD i 0]:=by
   rw[Cz,Ad hio,Aa,Ad hio];rfl
  have hbl:b.length=i:=by rw[hb,Am,Bi];omega
  have ih':=ih (i+1) m (b++[a.ac.getD (o.getD i 0).toNat false]) (i+1) 1 om om (by rw[htk,hb,Cm];rfl) rfl (by rw[if_neg om]);rw[cs1 i]at ih';have hc:(i:Int)<o.length:=om;have hi0:(0:Int)<=i:=om;clear ih hor hb htk;generalize hv:o.getD i 0=v at *;have hva2:v<a.ac.length:=om;have ht2:(aD b).take i=aD b:=iJ om;have hi12:i<=12:=om
  by_cases hz:i=0
  ·obtain rfl:e=0:=by rw[he,if_pos hz]
   clear he hz
   simp-implicitDefEqProofs (maxSteps:=9^7) (disch:=try exact Dz) only[↓DN,↓kRet,UP,simprocAttr,LA,hc,hi0,hv,v0,hva2,ht2,aCP,↓ih',G7,IB,Tryz.f54]
  ·obtain rfl:e=1:=by rw[he,if_neg hz]
   clear he hz
   simp-implicitDefEqProofs (maxSteps:=9^7) (disch:=try exact Dz) only[↓DN,↓kRet,UP,simprocAttr,LA,hc,hi0,hv,v0,hva2,ht2,aCP,↓ih',G7,IB,Tryz.f54]
theorem aRO(hn:9<=n)(a:Aut)(ha:AOK a)(hL:2^60<=L):aA env L n 54 [.agg [nI a.al,.d (.ivs a.nx.length (aE a.nx)),.d (.ivs a.ac.length (aD a.ac))]] []=some (.agg [.d (.int .i64 (a7 a).al),.d (.ivs (a7 a).nx.length (aE (a7 a).nx)),.d (.ivs (a7 a).ac.length (aD (a7 a).ac))],[]):=by
 obtain⟨sa,wa,a1,a2,a3⟩:=aR ha;obtain⟨W,hB⟩:=gK ha;have hl:=dX hB.nod hB.rng;have hp:=hB.pos;have loop_c:=fun {R:Type} {n:Nat} {al2:Int} {nxd:D} {k:KE R} (hn:3<=n)=> @aNN R L n hn hL a ha (ordA a) om hB.rng al2 nxd k (ordA a).length 0 L [] 0 0 om om rfl rfl rfl;have kc_q:=fun {R:Type} {n:Nat} {o0 o1 o2 o3 o4:O} {T:H} {k:KA R} (hn:5<=n)=> @aWF R L n o0 o1 o2 o3 o4 T k hn hL a ha;simp only[Ap,NW]at loop_c;rw[if_neg om]at loop_c;have hx1:(a7 a).nx.length=(ordA a).length:=Am _;have hx2:(a7 a).ac.length=(ordA a).length:=Am _;have hx3:(a7 a).al=a.al:=rfl;have e2:((ordA a).map fun v=>a.ac.getD v.toNat false)=(a7 a).ac:=rfl;rw[e2]at loop_c;rw[hx1,hx2,hx3];have ht2:(aD (a7 a).ac).take (ordA a).length=aD (a7 a).ac:=iJ om;have hb1:(aD (a7 a).ac).length=(ordA a).length:=by rw[cU,hx2]
 have hla:=hU a.al a.nx;clear hB e2;generalize(a7 a).nx=w1 at *;generalize(a7 a).ac=w2 at *;generalize ordA a=w at *;obtain _|n:=n;omega
 simp-implicitDefEqProofs (maxSteps:=9^7) (disch:=try exact Dz) only[↓DN,↓kRet,UP,simprocAttr,↓BZ,↓jD,↓kc_q,↓loop_c,ht2,hb1,Ab,Bj,aSX,aNu,Tryz.f54]
end
section
variable{R:Type}{L n:Nat}
theorem aWU{d:List (List Int)}(h:0<d.length):eR d=1:=by
 unfold eR;rw[if_neg (by rintro rfl;simp at h)]
theorem aBQ(hn:3<=n)(hL:2^60<=L){a:Aut}{cl:List Int}(hcl:cl.length=a.nx.length)(hal:a.nx.length<=12){rw0:List Int}(hr6:rw0.length<=6)(hrr:∀x∈rw0,0<=x/\x<a.nx.length){q al2:Int}{d e:Nat}{cn cs2:List D}{k:KE R}:∀(j p m:Nat) (r:List Int) (len:Nat) (hp:p+j=rw0.length) (hm:j<m) (hlen:len=r.length) (hr2:r.length+j<=1000),
  aT env (aA env L n) L 0 (W4 (W2 (W1 [2]))) Bz5 (rD 1) (U1 (Z4 (Z1 (U1 (Z1 (U4 (U2 (U1 (Z2 (Z1 (U8 (U4 (U1 (Z2 (Z1 (U16 (U8 (U4 (U2 ([])))))))))))))))))))) m (Y1 (.ptr 0 0 0::.ptr 1 0 0::.d (.ivs a.nx.length (ints cl))::.ptr 2 0 0::nI q::Y1 (.sl 3 0 0 len::Y4 (Y2 (Y1 (.d (.ivs a.nx.length (ints cl))::nI (a.nx.length:Int)::nI q::Y8 (Y4 (Y1 (.d (.ivs rw0.length (ints rw0))::nI (rw0.length:Int)::nI p::Y16 (Y8 (Y4 (Y2 ([]))))))))))))) [.box [nI a.al,.d (.ivs a.nx.length (aE a.nx)),.d (.ivs a.ac.length (aD a.ac))],.box [nI 0,.sl 4 0 0 0,.sl 5 0 0 0],.box [nI al2,.sl 6 0 0 d,.sl 7 0 0 d],.arr (ints r) 1 0,.arr [] 0 0,.arr [] 0 0,.arr cn e 0,.arr cs2 e 0] k
  =k (.exit 2) (Y1 (.ptr 0 0 0::.ptr 1 0 0::.d (.ivs a.nx.length (ints cl))::.ptr 2 0 0::nI q::Y1 (.sl 3 0 0 (r++(rw0.drop p).map (clA cl)).length::Y4 (Y2 (Y1 (.d (.ivs a.nx.length (ints cl))::nI (a.nx.length:Int)::nI q::Y8 (Y4 (Y1 (.d (.ivs rw0.length (ints rw0))::nI (rw0.length:Int)::nI (rw0.length:Int)::Y16 (Y8 (Y4 (Y2 ([]))))))))))))) [.box [nI a.al,.d (.ivs a.nx.length (aE a.nx)),.d (.ivs a.ac.length (aD a.ac))],.box [nI 0,.sl 4 0 0 0,.sl 5 0 0 0],.box [nI al2,.sl 6 0 0 d,.sl 7 0 0 d],.arr (ints (r++(rw0.drop p).map (clA cl))) 1 0,.arr [] 0 0,.arr [] 0 0,.arr cn e 0,.arr cs2 e 0]:=by
 intro j
 induction j with
 |zero=>
  intro p m r len hp hm hlen hr2;obtain _|m:=m;omega;obtain rfl:p=rw0.length:=om;subst hlen;rw[Bu,As,Ai]
  simp-implicitDefEqProofs (maxSteps:=9^7) (disch:=try exact Dz) only[↓DN,↓kRet,UP,simprocAttr,Ah,H1,D2,Tryz.f25]
 |succ j ih=>
  intro p m r len hp hm hlen hr2;obtain _|m:=m;omega;subst hlen;have hk:p<rw0.length:=om;have hc:(p:Int)<rw0.length:=om;have hp0:(0:Int)<=p:=om;obtain⟨x0,x1⟩:=hrr _ (jH hk);have x2:rw0.getD p 0<cl.length:=om;have ih':=ih (p+1) m (r++[clA cl (rw0.getD p 0)]) (r.length+1) om om smp (by simp;omega);rw[cs1 p]at ih';simp only[Ao,Do]at ih';rw[ZM hk];have hr100:r.length<=1000:=om;clear ih hrr;generalize(rw0.drop (p+1)).map (clA cl)=w at *;unfold clA at *;generalize hx:rw0.getD p 0=x at *;generalize hci:cl.getD x.toNat 0=ci at *
  simp-implicitDefEqProofs (maxSteps:=9^7) (disch:=try exact Dz) only[↓DN,↓kRet,UP,simprocAttr,hc,hp0,hx,x0,x1,hci,hcl,↓ih',H1,D2,Tryz.f25]
theorem aC7{b:List Bool}{x:Bool}:aD b++[.bool x]=aD (b++[x]):=by simp[aD]
theorem aBB(hn:3<=n)(hL:2^60<=L){a:Aut}(ha:AOK a){cl:List Int}(hcl:cl.length=a.nx.length){al2:Int}{k:KE R}:∀(j q m:Nat) (d:List (List Int)) (b:List Bool) (len:Nat) (hq:q+j=a.nx.length) (hm:j<m) (hlen:len=d.length) (hb:b.length=d.length) (hdq:d.length<=q),
  aT env (aA env L n) L 0 (W4 (W2 (W1 [2]))) Bz5 (rD 0) (U1 (Z4 (U8 (U2 (Z2 (Z1 (U32 (U8 (U4 (U2 ([]))))))))))) m (Y1 (.ptr 0 0 0::.ptr 1 0 0::.d (.ivs a.nx.length (ints cl))::.ptr 2 0 0::Y8 (Y2 (.d (.ivs a.nx.length (ints cl))::nI (a.nx.length:Int)::nI q::Y32 (Y8 (Y4 (Y2 ([])))))))) [.box [nI a.al,.d (.ivs a.nx.length (aE a.nx)),.d (.ivs a.ac.length (aD a.ac))],.box [nI 0,.sl 3 0 0 0,.sl 4 0 0 0],.box [nI al2,.sl 5 0 0 len,.sl 6 0 0 len],.arr [] 0 0,.arr [] 0 0,.arr (aE d) (eR d) 0,.arr (aD b) (eR d) 0] k
  =k (.exit 0) (Y1 (.ptr 0 0 0::.ptr 1 0 0::.d (.ivs a.nx.length (ints cl))::.ptr 2 0 0::Y8 (Y2 (.d (.ivs a.nx.length (ints cl))::nI (a.nx.length:Int)::nI (a.nx.length:Int)::Y32 (Y8 (Y4 (Y2 ([])))))))) [.box [nI a.al,.d (.ivs a.nx.length (aE a.nx)),.d (.ivs a.ac.length (aD a.ac))],.box [nI 0,.sl 3 0 0 0,.sl 4 0 0 0],.box [nI al2,.sl 5 0 0 (quoG a cl j q d b).1.length,.sl 6 0 0 (quoG a cl j q d b).1.length],.arr [] 0 0,.arr [] 0 0,.arr (aE (quoG a cl j q d b).1) (eR (quoG a cl j q d b).1) 0,.arr (aD (quoG a cl j q d b).2) (eR (quoG a cl j q d b).1) 0]:=by
 obtain⟨sa,wa,a1,a2,a3⟩:=aR ha;have hal:=sa.1;intro j
 induction j with
 |zero=>
  intro q m d b len hq hm hlen hb hdq;obtain _|m:=m;omega;obtain rfl:q=a.nx.length:=om;subst hlen;have e:quoG a cl 0 a.nx.length d b=(d,b):=rfl;rw[e]
  simp-implicitDefEqProofs (maxSteps:=9^7) (disch:=try exact Dz) only[↓DN,↓kRet,UP,simprocAttr,Ah,nZ,n5,Tryz.f25]
 |succ j ih=>
  intro q m d b len hq hm hlen hb hdq;obtain _|m:=m;omega;subst hlen;have hqc:(q:Int)<a.nx.length:=om;have hql:(q:Int)<cl.length:=om;have hq0:(0:Int)<=q:=om;have hqa:(q:Int)<a.ac.length:=om;unfold quoG
  by_cases hlt:cl.getD q 0<d.length
  ·rw[if_pos hlt];have ih':=ih (q+1) m d b d.length om om rfl hb om;rw[cs1 q]at ih';clear ih;generalize quoG a cl j (q+1) d b=z at *
   simp-implicitDefEqProofs (maxSteps:=9^7) (disch:=try exact Dz) only[↓DN,↓kRet,UP,simprocAttr,hqc,hq0,hcl,hlt,↓ih',nZ,n5,Tryz.f25]
  ·rw[if_neg hlt];have hrow:=(gL ha (i:=q) om).1;have hll:=bO a.al
   have hrr:∀x∈a.nx.getD q [],0<=x/\x<a.nx.length:=by
    intro x hx;have hm2:=DV ha (v:=(q:Int)) om om;unfold rowA at hm2;rw[Ca]at hm2;rw[<-hm2]at hx;obtain⟨l,hl,rfl⟩:=Av.1 hx;exact oA ha q l om om hl
   have loop_c:=fun {R:Type} {n:Nat} {d e:Nat} {cn cs2:List D} {k:KE R} (hn:3<=n)=> @aBQ R L n hn hL a cl hcl a2 (a.nx.getD q []) om hrr (q:Int) al2 d e cn cs2 k (a.nx.getD q []).length 0 L [] 0 om om rfl (by rw[Ac];omega);rw[Ba]at loop_c;simp only[Ap,Aq,kG]at loop_c;have ih':=ih (q+1) m (d++[(a.nx.getD q []).map (clA cl)]) (b++[acQ a q]) (d.length+1) om om smp (by simp[hb]) (by simp;omega);rw[cs1 q,aWr]at ih';have hw6:((a.nx.getD q []).map (clA cl)).length<=6:=by rw[Am];omega
   have ht:(aE d).take d.length=aE d:=kX (Ab _);have ht2:(aD b).take d.length=aD b:=iJ om;have hd12:d.length<=12:=om;clear ih hrr;unfold acQ at *;rw[Ca]at ih'|-;generalize quoG a cl j (q+1) (d++[(a.nx.getD q []).map (clA cl)]) (b++[a.ac.getD q false])=z at *;generalize(a.nx.getD q []).map (clA cl)=w at *;have hwt:(ints w).take w.length=ints w:=by rw[cK (Ab _)]
   rcases aXE d with h1|h1
   ·rw[h1]
    simp-implicitDefEqProofs (maxSteps:=9^7) (disch:=try exact Dz) only[↓DN,↓kAsg,↓kRet,UP,simprocAttr,LA,hqc,hq0,hqa,hcl,hlt,↓loop_c,ht,ht2,hwt,pJ,aC7,↓ih',nZ,n5,Tryz.f25]
   ·rw[h1]
    simp-implicitDefEqProofs (maxSteps:=9^7) (disch:=try exact Dz) only[↓DN,↓kAsg,↓kRet,UP,simprocAttr,LA,hqc,hq0,hqa,hcl,hlt,↓loop_c,ht,ht2,hwt,pJ,aC7,↓ih',nZ,n5,Tryz.f25]
theorem aUL{o0 o1 o2 o3 o4:O}{T:H}{k:KA R}(hn:9<=n)(hL:2^60<=L){a:Aut}(ha:AOK a):
  aX env (aA env L n) (o0::o1::o2::o3::o4::.arr (aE a.nx) 1 0::.arr (aD a.ac) 1 0::T) 54 [.agg [nI a.al,.sl 5 0 0 a.nx.length,.sl 6 0 0 a.nx.length]] k
  =k (.agg [.d (.int .i64 (a7 a).al),.d (.ivs (a7 a).nx.length (aE (a7 a).nx)),.d (.ivs (a7 a).ac.length (aD (a7 a).ac))]) (o0::o1::o2::o3::o4::.ice (aE a.nx) 1 0::.ice (aD a.ac) 1 0::T):=by
 obtain⟨sa,wa,a1,a2,a3⟩:=aR ha;have hev:=@aRO L n hn a ha hL
 have hre:aF aI (o0::o1::o2::o3::o4::O.arr (aE a.nx) 1 0::O.arr (aD a.ac) 1 0::T) [5,6] []=[5,6]:=by
  have e1:aF aI (o0::o1::o2::o3::o4::O.arr (aE a.nx) 1 0::O.arr (aD a.ac) 1 0::T) [5,6] []=aF (aI-2) (o0::o1::o2::o3::o4::O.arr (aE a.nx) 1 0::O.arr (aD a.ac) 1 0::T) [] [5,6]:=rfl;rw[e1];rfl
 refine kP P8 (ids:=[5,6]) (ord:=[5,6]) (blk:=[.arr (aE a.nx) 1 0,.arr (aD a.ac) 1 0]) (blk2:=[.ice (aE a.nx) 1 0,.ice (aD a.ac) 1 0]) (fs:=[.agg [nI a.al,.d (.ivs a.nx.length (aE a.nx)),.d (.ivs a.ac.length (aD a.ac))]]) ?_ hre rfl ?_ ?_ hev ?_ smp ?_
 ·rfl
 ·simp[d8,frzA,frzL,eD,frz,frz0,aG,mapA,aJ,deep,jU,cU,a3,Ce]
 ·rfl
 ·rfl
 ·simp[bJ,mapO]
theorem WG(hn:10<=n)(a:Aut)(ha:AOK a)(hL:2^60<=L):aA env L n 25 [.agg [nI a.al,.d (.ivs a.nx.length (aE a.nx)),.d (.ivs a.ac.length (aD a.ac))]] []=some (.agg [.d (.int .i64 (minA a).al),.d (.ivs (minA a).nx.length (aE (minA a).nx)),.d (.ivs (minA a).ac.length (aD (minA a).ac))],[]):=by
 obtain⟨sa,wa,a1,a2,a3⟩:=aR ha;have hal:=sa.1;have hcl:=FG ha;have hqo:=(BT ha).ok;obtain⟨_,_,q1,q2,q3⟩:=aR hqo;have loop_c:=fun {R n k} hn=> @aBB R L n hn hL a ha (bA a) hcl a.al k a.nx.length 0 L [] [] 0 om om rfl rfl smp;have e1:(quoG a (bA a) a.nx.length 0 [] []).1=(quoA a).nx:=rfl;have e2:(quoG a (bA a) a.nx.length 0 [] []).2=(quoA a).ac:=rfl;rw[e1,e2,aXz,aWU om]at loop_c;simp only[Ap,F3,NW]at loop_c;have kc_q:=fun {R:Type} {n:Nat} {o0 o1 o2 o3 o4:O} {T:H} {k:KA R} (hn:9<=n)=> @aUL R L n o0 o1 o2 o3 o4 T k hn hL (quoA a) hqo;have kc_c:=@aHw L a ha hL;have e3:a7 (quoA a)=minA a:=rfl;have e4:(quoA a).al=a.al:=rfl;rw[e3,e4]at kc_q;rw[hcl]at kc_c;clear e1 e2 e3 e4;generalize minA a=x at *;generalize(quoA a).nx=w1 at *;generalize(quoA a).ac=w2 at *;generalize bA a=cl at *;obtain _|n:=n;omega
 simp-implicitDefEqProofs (maxSteps:=9^7) (disch:=try exact Dz) only[↓DN,↓kRet,UP,simprocAttr,↓kc_c,↓loop_c,↓kc_q,Ab,aKj,YH,Tryz.f25]
theorem aKS:type_of% fun {L} a ha hL=>ks fun hn=> @WG L _ hn a ha hL:=fun {L} a ha hL=>ks fun hn=> @WG L _ hn a ha hL
theorem wR(hn:11<=n)(a:Aut)(ha:AOK a)(hL:2^60<=L):aA env L n 10 [.agg [nI a.al,.d (.ivs a.nx.length (aE a.nx)),.d (.ivs a.ac.length (aD a.ac))]] []=some (.tup [.agg [.d (.int .i64 (minA a).al),.d (.ivs (minA a).nx.length (aE (minA a).nx)),.d (.ivs (minA a).ac.length (aD (minA a).ac))],.d (.bool true)],[]):=by
 obtain⟨sa,wa,a1,a2,a3⟩:=aR ha;have hrl:=sa.1;have hac:a.ac.length<=4294967296:=om;have kc_t:=@aKS L a ha hL;unfold AOK at ha;generalize minA a=x at *;obtain _|n:=n;omega
 simp-implicitDefEqProofs (maxSteps:=9^7) (disch:=try exact Dz) only[↓DN,↓kAsg,↓kRet,UP,simprocAttr,↓a8,ha,↓kc_t,wT,oR,Tryz.f10]
theorem wV:type_of% fun {L} a ha hL=>ks fun hn=> @wR L _ hn a ha hL:=fun {L} a ha hL=>ks fun hn=> @wR L _ hn a ha hL
end
theorem JO{L n:Nat}(hn:11<=n)(a:Aut)(hs:aW a.nx)(hac:a.ac.length<=4294967296)(ha:cA a.al a.nx a.ac=false)(hL:2^60<=L):aA env L n 10 [.agg [nI a.al,.d (.ivs a.nx.length (aE a.nx)),.d (.ivs a.ac.length (aD a.ac))]] []=some (.tup [.agg [nI 0,.d (.ivs 0 []),.d (.ivs 0 [])],.d (.bool false)],[]):=by
 obtain _|n:=n;omega
 simp-implicitDefEqProofs (maxSteps:=9^7) (disch:=try exact Dz) only[↓DN,↓kAsg,↓kRet,UP,simprocAttr,↓a8,ha,wT,oR,Tryz.f10]
theorem aWE{a b:Aut}{x:Int}(hp:nS a b x=true):AOK a/\AOK b/\a.al=b.al/\0<=x/\∃l,dJ a x=some l:=by
 obtain⟨l,hs,hc,_⟩:=aLb.1 hp;obtain⟨ha,hb,hal⟩:=m6.1 hc;exact⟨ha,hb,hal,(FC hs).2.1,l,hs⟩
theorem aQi{a b:Aut}{x:Int}(hp:nS a b x=true)(hN:¬((minA a).nx.length:Int)+x<(minA b).nx.length):aE3 a b=true:=by
 obtain⟨l,hs,hc,hw⟩:=aLb.1 hp;obtain⟨ha,hb,hal⟩:=m6.1 hc;have x0:=(FC hs).2.1;rw[aBg ha,aBg hb]at hN;exact aTp.2 ⟨ha,hb,hal,fun w ho=>aRF hs hc hw om ho⟩
theorem aRN{a:Aut}(h:AOK a):(minA (minA a)).nx.length=(minA a).nx.length:=by
 rw[aBg (aAM h),aVE h,aBg h]
theorem ZR{L n:Nat}(hn:32<=n)(c:List UInt8)(hL:2^60<=L):aA env L n 4 [.d (.ivs c.length (bM c))] []=some (.d (.bool true),[]):=by
 by_cases hsz:(1048576:Int)<c.length
 ·obtain _|n:=n;omega
  simp-implicitDefEqProofs (maxSteps:=9^7) (disch:=try exact Dz) only[↓DN,↓kAsg,↓kRet,UP,simprocAttr,hsz,j2,iM,Tryz.f4]
 ·obtain⟨a,b,x,b1,b2,x0,x1,kd⟩:=YL c om;have sa:=b1.short om;have sb:=b2.short om;have ha:a.ac.length<=4294967296:=by have:=b1.a;omega
  have hb:b.ac.length<=4294967296:=by have:=b2.a;omega
  unfold autD at kd;have kc_f:=@LD L a b x sa sb ha hb hL;have kc_g:=@aDY L a b x sa sb ha hb hL;have hq2:(nS a b x==nS a b x)=true:=smp;have hq3:(nS a b x !=nS a b x)=false:=smp
  cases hv:cA a.al a.nx a.ac with
  |false=>
   have kc_m:=fun {R:Type} {n:Nat} {hq:H} {k:KA R} (hn:11<=n)=>bS (E:=env) (h:=hq) (k:=k) rfl (JO (L:=L) hn a sa ha hv hL) rfl (.inr rfl);generalize nS a b x=p at *;obtain _|n:=n;omega
   simp-implicitDefEqProofs (maxSteps:=9^7) (disch:=try exact Dz) only[↓DN,↓kAsg,↓kRet,UP,simprocAttr,hsz,↓kd,↓kc_f,↓kc_g,↓kc_m,j2,iM,Tryz.f4]
  |true=>
   have va:AOK a:=hv;have kc_m:=@wV L a va hL;obtain⟨sm,_,m1,m2,m3⟩:=aR (aAM va);have kc_h:=@LD L (minA a) b x sm sb om hb hL
   cases hp:nS (minA a) b x with
   |false=>
    rw[hp]at kc_h;clear hp hv va;generalize nS a b x=p at *;generalize minA a=ma at *;obtain _|n:=n;omega
    simp-implicitDefEqProofs (maxSteps:=9^7) (disch:=try exact Dz) only[↓DN,↓kAsg,↓kRet,UP,simprocAttr,hsz,↓kd,↓kc_f,↓kc_g,↓kc_m,↓kc_h,j2,iM,Tryz.f4]
   |true=>
    rw[hp]at kc_h;obtain⟨_,vb,hal,y0,l,hs⟩:=aWE hp;have kc_o:=@wV L b vb hL;have kc_s:=@aBR L (minA a) b sm sb om hb hL;have hsame:=aQi hp;rw[aRN va]at hsame;obtain⟨_,_,n1,n2,n3⟩:=aR (aAM vb);clear hp hv va vb hs;generalize nS a b x=p at *;generalize minA a=ma at *;generalize minA b=mb at *
    by_cases hN:(ma.nx.length:Int)+x<mb.nx.length
    ·obtain _|n:=n;omega
     simp-implicitDefEqProofs (maxSteps:=9^7) (disch:=try exact Dz) only[↓DN,↓kAsg,↓kRet,UP,simprocAttr,hsz,↓kd,↓kc_f,↓kc_g,↓kc_m,↓kc_h,↓kc_o,hN,j2,iM,Tryz.f4]
    ·rw[hsame hN]at kc_s;clear hsame;obtain _|n:=n;omega
     simp-implicitDefEqProofs (maxSteps:=9^7) (disch:=try exact Dz) only[↓DN,↓kAsg,↓kRet,UP,simprocAttr,hsz,↓kd,↓kc_f,↓kc_g,↓kc_m,↓kc_h,↓kc_o,↓kc_s,hN,j2,iM,Tryz.f4]
end Ev
end Go.Proofs.YtppffbehejpglaaGreatDoor
