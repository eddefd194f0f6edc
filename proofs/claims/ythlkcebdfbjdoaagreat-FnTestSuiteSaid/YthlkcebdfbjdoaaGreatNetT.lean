/-
  Products of systems and automata as the reference searches them: plain laws.
-/
import Derived.Test.YthlkcebdfbjdoaaGreatAutG
import Derived.Test.YthlkcebdfbjdoaaGreatDistG
import Derived.Test.YthlkcebdfbjdoaaGreatShSf
set_option linter.unusedSimpArgs false
set_option linter.unusedVariables false
set_option maxRecDepth 8000
set_option maxHeartbeats 4000000
namespace Go.Proofs.YthlkcebdfbjdoaaGreat
namespace Ev
def sysD:List Sys->List D
 | []=>[]
 |s::l=>.int .i64 s.al::.int .i64 s.st::.ivs s.es.length (aP8 s.es)::sysD l
def fV:List Aut->List D
 | []=>[]
 |a::l=>.int .i64 a.al::.ivs a.nx.length (aL a.nx)::.ivs a.ac.length (aJ a.ac)::fV l
theorem KO:∀ {l:List Sys},(sysD l).length=l.length*3
 | []=>rfl
 |p::l=>by simp only[sysD,Ad,KO (l:=l)];omega
theorem GZ:∀ {l:List Aut},(fV l).length=l.length*3
 | []=>rfl
 |p::l=>by simp only[fV,Ad,GZ (l:=l)];omega
theorem aEX:∀ {l:List Sys} {k:Nat},(sysD l).drop (k*3)=sysD (l.drop k)
 |l,0=>by simp
 | [],k+1=>by simp[sysD]
 |p::l,k+1=>by
  rw[Bx,Nat.one_mul];simp only[sysD,Dh];exact aEX
theorem EB:∀ {l:List Aut} {k:Nat},(fV l).drop (k*3)=fV (l.drop k)
 |l,0=>by simp
 | [],k+1=>by simp[fV]
 |p::l,k+1=>by
  rw[Bx,Nat.one_mul];simp only[fV,Dh];exact EB
theorem aP4{l:List Sys}{k:Nat}(h:k<l.length):(((sysD l).drop (k*3+1)).map A.d).head? =some (.d (.int .i64 (l.getD k default).st)):=by
 rw[<-Ci,aEX,b7 h (d:=default)];rfl
theorem aQx{l:List Aut}{k:Nat}(h:k<l.length):(((fV l).drop (k*3+1)).map A.d).head? =some (.d (.ivs (l.getD k default).nx.length (aL (l.getD k default).nx))):=by
 rw[<-Ci,EB,b7 h (d:=default)];rfl
theorem aQj{l:List Aut}{k:Nat}(h:k<l.length):(((fV l).drop (k*3+2)).map A.d).head? =some (.d (.ivs (l.getD k default).ac.length (aJ (l.getD k default).ac))):=by
 rw[<-Ci,EB,b7 h (d:=default)];rfl
theorem aPR{l:List Aut}{k:Nat}(h:k<l.length):(((fV l).drop (k*3)).map A.d).take 3=[.d (.int .i64 (l.getD k default).al),.d (.ivs (l.getD k default).nx.length (aL (l.getD k default).nx)),.d (.ivs (l.getD k default).ac.length (aJ (l.getD k default).ac))]:=by
 rw[EB,b7 h (d:=default)];rfl
structure Net where
 ps:List Sys
 us:List Aut
 start:List Int
 ls:Int
 kind:Int
 goal:Int
def netC(N:Net):List D:=[.ivs N.ps.length (sysD N.ps),.ivs N.us.length (fV N.us),.ivs N.start.length (ints N.start),.int .i64 N.ls,.int .i64 N.kind,.int .i64 N.goal]
def LG(N:Net):List Int:=N.ps.map (·.st)++N.us.map fun a=>(a.nx.length:Int)
def decR:List Int->Int->List Int
 | [],_=>[]
 |z::zs,node=>node.tmod z::decR zs (node.tdiv z)
def decN(zs:List Int)(node:Int):List Int:=(decR zs.reverse node).reverse
def encN:List Int->List Int->Int->Int
 |z::zs,s::ss,node=>encN zs ss (node*z+s)
 |_,_,node=>node
def mulN(out:List Int)(z:Int)(ch:List Int):List Int:=out.flatMap fun o=>ch.map fun c=>o*z+c
def okN(N:Net)(states:List Int)(i:Nat):Bool:=(N.us.getD i default).ac.getD (states.getD (N.ps.length+i) 0).toNat false
def LF(N:Net)(states:List Int)(mvs:List (List Int)):Bool:=
 if N.kind=0 then okN N states 0
 else if N.kind=1 then okN N states 0 !=okN N states 1
 else if N.kind=2 then okN N states 0&& !okN N states 1
 else if N.kind=3 then !okN N states 0
 else if N.kind=5 then decide (states.getD N.ps.length 0=N.goal)
 else mvs.all fun r=>r.isEmpty
section
variable{R:Type}{L n:Nat}
theorem NE:type_of% (AI @KO @GZ):=
 ⟨@KO,@GZ⟩
theorem kK{l:List Int}{i:Nat}(h:i<l.length):l.getD i 0∈l:=by
 rw[Aa,Ae h];exact Az h
theorem aNk{l:List Int}{j:Nat}(h:j<l.length):(l.take (j+1)).reverse=l.getD j 0::(l.take j).reverse:=by
 rw[List.take_add_one,Ae h,List.reverse_append,Aa,Ae h];rfl
def decE:List Int->Int->Int
 | [],n=>n
 |z::zs,n=>decE zs (n.tdiv z)
theorem aHx:∀(zs:List Int) (n:Int),(decR zs n).length=zs.length
 | [],_=>rfl
 |z::zs,n=>by simp[decR,aHx zs]
theorem ZD(zs:List Int)(n:Int):(decN zs n).length=zs.length:=by simp[decN,aHx]
theorem aA0(hn:1<=n){zs:List Int}(hz:∀z∈zs,0<z/\z<=65536)(hl:zs.length<=1000){k:KE R}:∀(j:Nat) (i node:Int) (m:Nat) (o:List Int) (len:Nat) (hi:i=(j:Int)-1) (hj:j<=zs.length) (h0:0<=node) (h1:node<=4294967296) (hm:j<m) (ho:o.length=zs.length) (hlen:len=zs.length),
  aS env (aA env L n) L 0 [] Bz45 (CW 0) (Z2 (U2 (Z2 (Z1 (U16 (U8 (U2 ([])))))))) m (.d (.ivs zs.length (ints zs))::nI node::Y2 (.d .nils::.sl 0 0 0 len::nI i::Y16 (Y8 (Y2 ([]))))) [.arr (ints o) 1 0] k
  =k (.exit 0) (.d (.ivs zs.length (ints zs))::nI (decE (zs.take j).reverse node)::Y2 (.d .nils::.sl 0 0 0 len::nI (-1)::Y16 (Y8 (Y2 ([]))))) [.arr (ints ((decR (zs.take j).reverse node).reverse++o.drop j)) 1 0]:=by
 intro j
 induction j with
 |zero=>
  intro i node m o len hi hj h0 h1 hm ho hlen;obtain _|m:=m;omega;obtain rfl:i= -1:=om
  simp-implicitDefEqProofs (maxSteps:=9^7) (disch:=try exact Dz) only[↓DN,↓kRet,UP,simprocAttr,DF,zN,Tryz.f132];simp[decR,decE]
 |succ j ih=>
  intro i node m o len hi hj h0 h1 hm ho hlen;obtain _|m:=m;omega;obtain rfl:i=(j:Int):=om;subst hlen;have hk:j<zs.length:=om;have hk2:j<o.length:=om;have hc:(j:Int)<zs.length:=om;obtain⟨z1,z2⟩:=hz _ (kK hk);have hz0:¬zs.getD j 0=0:=om;have t0:0<=node.tdiv (zs.getD j 0):=Int.tdiv_nonneg h0 om
  have t1:node.tdiv (zs.getD j 0)<=node:=by
   rw[Ef h0];exact Int.ediv_le_self _ h0
  have ih':=ih ((j:Int)-1) (node.tdiv (zs.getD j 0)) m (o.set j (node.tmod (zs.getD j 0))) zs.length rfl om t0 om om (by simpa using ho) rfl;rw[aNk hk];simp only[decR,decE,List.reverse_cons,Am,Av,Ao]
  have e:(o.set j (node.tmod (zs.getD j 0))).drop j=node.tmod (zs.getD j 0)::o.drop (j+1):=by
   rw[b7 (d:=0) (by simpa using hk2),aEv hk2,if_pos rfl,List.drop_set_of_lt om]
  rw[e]at ih';clear ih e;have hj0:(0:Int)<=j:=om
  simp-implicitDefEqProofs (maxSteps:=9^7) (disch:=try exact Dz) only[↓DN,↓kRet,UP,simprocAttr,hc,hj0,↓VP,↓ih',DF,zN,Tryz.f132]
theorem QA(hn:2<=n)(zs:List Int)(node:Int)(hz:∀z∈zs,0<z/\z<=65536)(hl:zs.length<=1000)(h0:0<=node)(h1:node<=4294967296)(hL:2^60<=L):aA env L n 132 [.d (.ivs zs.length (ints zs)),nI node] []=some (.d (.ivs zs.length (ints (decN zs node))),[]):=by
 have loop_c:=fun {R n k} hn=> @aA0 R L n hn zs hz hl k zs.length ((zs.length:Int)-1) node L (List.replicate zs.length 0) zs.length rfl (Ab _) h0 h1 om sm rfl;have e:(List.replicate zs.length (0:Int)).drop zs.length=[]:=sm;rw[Cx,e,Ai]at loop_c;have e2:(decR zs.reverse node).reverse=decN zs node:=rfl;have e3:=ZD zs node;rw[e2]at loop_c;generalize decN zs node=w at *;have e4:(ints w).take zs.length=ints w:=dX om;obtain _|n:=n;omega
 simp-implicitDefEqProofs (maxSteps:=9^7) (disch:=try exact Dz) only[↓DN,↓kAsg,↓kRet,UP,simprocAttr,↓I5,↓loop_c,e4,e3,aFp,UK,Tryz.f132]
theorem O5:type_of% fun {L} zs node hz hl h0 h1 hL=>ks fun hn=> @QA L _ hn zs node hz hl h0 h1 hL:=fun {L} zs node hz hl h0 h1 hL=>ks fun hn=> @QA L _ hn zs node hz hl h0 h1 hL
def NQ:List Int->List Int->Int->Prop
 |z::zs,s::ss,node=>(0<=node*z/\node*z<=4294967296)/\(0<=node*z+s/\node*z+s<=4294967296)/\NQ zs ss (node*z+s)
 | [],[],_=>True
 |_,_,_=>False
theorem aCn(hn:1<=n){zs ss:List Int}(hl:zs.length<=1000)(hls:ss.length=zs.length){k:KE R}:∀(j i:Nat) (node:Int) (m:Nat) (hi:i+j=zs.length) (hok:NQ (zs.drop i) (ss.drop i) node) (hm:j<m),
  aS env (aA env L n) L 0 [] Bz54 (CK 0) (Z2 (U2 (Z2 (Z1 (U16 (U2 ([]))))))) m (.d (.ivs zs.length (ints zs))::.d (.ivs ss.length (ints ss))::Y2 (nI 0::nI node::nI i::Y16 (Y2 ([])))) [] k
  =k (.exit 0) (.d (.ivs zs.length (ints zs))::.d (.ivs ss.length (ints ss))::Y2 (nI 0::nI (encN (zs.drop i) (ss.drop i) node)::nI (zs.length)::Y16 (Y2 ([])))) []:=by
 intro j
 induction j with
 |zero=>
  intro i node m hi hok hm;obtain _|m:=m;omega;obtain rfl:i=zs.length:=om
  simp-implicitDefEqProofs (maxSteps:=9^7) (disch:=try exact Dz) only[↓DN,↓kRet,UP,simprocAttr,Aj,DB,zO,Tryz.f134];simp[encN]
 |succ j ih=>
  intro i node m hi hok hm;obtain _|m:=m;omega;have hk:i<zs.length:=om;have hk2:i<ss.length:=om;have hc:(i:Int)<zs.length:=om;have hc2:(i:Int)<ss.length:=om;rw[b7 hk (d:=0),b7 hk2 (d:=0)]at hok|-;obtain⟨b1,b2,b3⟩:=hok;have ih':=ih (i+1) _ m om b3 om;rw[cs1 i]at ih';simp only[encN];clear ih b3
  simp-implicitDefEqProofs (maxSteps:=9^7) (disch:=try exact Dz) only[↓DN,↓kRet,UP,simprocAttr,hc,hc2,↓ih',DB,zO,Tryz.f134]
theorem aFd(hn:2<=n)(zs ss:List Int)(hl:zs.length<=1000)(hls:ss.length=zs.length)(hok:NQ zs ss 0)(hL:2^60<=L):aA env L n 134 [.d (.ivs zs.length (ints zs)),.d (.ivs ss.length (ints ss))] []=some (nI (encN zs ss 0),[]):=by
 have loop_c:=fun {R n k} hn=> @aCn R L n hn zs ss hl hls k zs.length 0 0 L om hok om;simp only[Bc,Aq]at loop_c;obtain _|n:=n;omega
 simp-implicitDefEqProofs (maxSteps:=9^7) (disch:=try exact Dz) only[↓DN,↓kAsg,UP,simprocAttr,↓loop_c,aFh,QY,Tryz.f134]
theorem aFc{hq:H}{k:KA R}(hn:2<=n)(zs ss:List Int)(hl:zs.length<=1000)(hls:ss.length=zs.length)(hok:NQ zs ss 0)(hL:2^60<=L):aW env (aA env L n) hq 134 [.d (.ivs zs.length (ints zs)),.d (.ivs ss.length (ints ss))] k=k (nI (encN zs ss 0)) hq:=
 cK rfl (aFd hn zs ss hl hls hok hL) rfl (.inl rfl)
theorem Z5(hn:1<=n){N:Net}(h1:N.ps.length<=1000)(h2:N.us.length<=1000){k:KE R}:∀(j i m:Nat) (o:List Int) (len:Nat) (hi:i+j=N.ps.length) (hm:j<m) (hlen:len=o.length) (ho:o.length+j<=4000),
  aS env (aA env L n) L 0 [] Bz34 (rG 0) (U1 (Z4 (U32 (U4 ([]))))) m (Y1 (.ptr 0 0 0::.d .nils::.sl 1 0 0 len::nI i::Y32 (Y4 ([])))) [.box ((netC N).map A.d),.arr (ints o) 1 0] k
  =k (.exit 0) (Y1 (.ptr 0 0 0::.d .nils::.sl 1 0 0 (o++(N.ps.drop i).map (·.st)).length::nI (N.ps.length)::Y32 (Y4 ([])))) [.box ((netC N).map A.d),.arr (ints (o++(N.ps.drop i).map (·.st))) 1 0]:=by
 intro j
 induction j with
 |zero=>
  intro i m o len hi hm hlen ho;obtain _|m:=m;omega;obtain rfl:i=N.ps.length:=om;subst hlen
  simp-implicitDefEqProofs (maxSteps:=9^7) (disch:=try exact Dz) only[↓DN,↓kRet,UP,simprocAttr,netC,Aj,GQ,C4,Tryz.f129];simp
 |succ j ih=>
  intro i m o len hi hm hlen ho;obtain _|m:=m;omega;subst hlen;have hk:i<N.ps.length:=om;have hc:(i:Int)<N.ps.length:=om;have g:=aP4 hk;have ih':=ih (i+1) m (o++[(N.ps.getD i default).st]) (o.length+1) om om sm (by rw[Af,Co];omega);rw[cs1 i]at ih';rw[b7 hk (d:=default),Ah];simp only[Am,Av,Ao]at ih';clear ih;generalize(N.ps.getD i default).st=s at *;simp only[netC,Ah,Ap]at ih'|-
  simp-implicitDefEqProofs (maxSteps:=9^7) (disch:=try exact Dz) only[↓DN,↓kRet,UP,simprocAttr,NE,Ay,Ce,Ci,hc,g,↓ih',GQ,C4,Tryz.f129]
theorem YM(hn:1<=n){N:Net}(h1:N.ps.length<=1000)(h2:N.us.length<=1000)(h3:∀a∈N.us,a.nx.length<=1000){k:KE R}:∀(j i m:Nat) (o:List Int) (len i4:Nat) (hi:i+j=N.us.length) (hm:j<m) (hlen:len=o.length) (ho:o.length+j<=4000),
  aS env (aA env L n) L 0 [] Bz34 (rG 1) (U1 (Z4 (Z1 (U32 (U2 (U1 ([]))))))) m (Y1 (.ptr 0 0 0::.d .nils::.sl 1 0 0 len::nI i4::nI i::Y32 (Y2 (Y1 ([]))))) [.box ((netC N).map A.d),.arr (ints o) 1 0] k
  =k (.exit 2) (Y1 (.ptr 0 0 0::.d .nils::.sl 1 0 0 (o++(N.us.drop i).map fun a=>(a.nx.length:Int)).length::nI i4::nI (N.us.length)::Y32 (Y2 (Y1 ([]))))) [.box ((netC N).map A.d),.arr (ints (o++(N.us.drop i).map fun a=>(a.nx.length:Int))) 1 0]:=by
 intro j
 induction j with
 |zero=>
  intro i m o len i4 hi hm hlen ho;obtain _|m:=m;omega;obtain rfl:i=N.us.length:=om;subst hlen
  simp-implicitDefEqProofs (maxSteps:=9^7) (disch:=try exact Dz) only[↓DN,↓kRet,UP,simprocAttr,netC,Aj,GE,CG,Tryz.f129];simp
 |succ j ih=>
  intro i m o len i4 hi hm hlen ho;obtain _|m:=m;omega;subst hlen;have hk:i<N.us.length:=om;have hc:(i:Int)<N.us.length:=om;have hmem:N.us.getD i default∈N.us:=by rw[Aa,Ae hk];exact Az hk
  have ha:=h3 _ hmem;have g:=aQx hk;have ih':=ih (i+1) m (o++[((N.us.getD i default).nx.length:Int)]) (o.length+1) i4 om om sm (by rw[Af,Co];omega);rw[cs1 i]at ih';rw[b7 hk (d:=default),Ah];simp only[Am,Av,Ao]at ih';clear ih hmem;generalize N.us.getD i default=s at *;simp only[netC,Ah,Ap]at ih'|-
  simp-implicitDefEqProofs (maxSteps:=9^7) (disch:=try exact Dz) only[↓DN,↓kRet,UP,simprocAttr,NE,Ay,Ce,Ci,hc,g,↓ih',GE,CG,Tryz.f129]
theorem RC(hn:2<=n)(N:Net)(h1:N.ps.length<=1000)(h2:N.us.length<=1000)(h3:∀a∈N.us,a.nx.length<=1000)(hL:2^60<=L):aA env L n 129 [.agg ((netC N).map A.d)] []=some (.d (.ivs (LG N).length (ints (LG N))),[]):=by
 have loop_a:=fun {R n k} hn=> @Z5 R L n hn N h1 h2 k N.ps.length 0 L [] 0 om om rfl (by simp;omega);have loop_b:=fun {R n k} hn=> @YM R L n hn N h1 h2 h3 k N.us.length 0 L (N.ps.map (·.st)) (N.ps.map (·.st)).length N.ps.length om om rfl (by simp;omega);simp only[Bc,Aq,Ao,nR]at loop_a loop_b;have e:N.ps.map (·.st)++N.us.map (fun a=>(a.nx.length:Int))=LG N:=rfl;rw[e]at loop_b;generalize LG N=w at *;generalize N.ps.map (·.st)=v at *;have e4:(ints w).take w.length=ints w:=dX (Ab _);simp only[netC,Ah,Ap]at loop_a loop_b|-;obtain _|n:=n;omega
 simp-implicitDefEqProofs (maxSteps:=9^7) (disch:=try exact Dz) only[↓DN,↓kAsg,↓kRet,UP,simprocAttr,↓loop_a,↓loop_b,e4,aHj,XK,Tryz.f129]
end
section
variable{R:Type}{L n:Nat}
theorem aIh(hn:1<=n){l:List Int}{x:Int}(hl:l.length<=4294967290){k:KE R}:∀(j i m:Nat) (hi:i+j=l.length) (hm:j<m),
  aS env (aA env L n) L 0 [] Bz14 (RH 0) Bz43 m (.d (.ivs l.length (ints l))::nI x::Y2 (.d (.bool false)::nI i::Y8 (Y4 ([])))) [] k
  =match seek (fun i=>decide (l.getD i 0=x)) j i with
   |none=>k (.exit 0) (.d (.ivs l.length (ints l))::nI x::Y2 (.d (.bool false)::nI (l.length)::Y8 (Y4 ([])))) []
   |some q=>k .ret (.d (.ivs l.length (ints l))::nI x::Y2 (.d (.bool true)::nI q::Y8 (Y4 ([])))) []:=by
 intro j
 induction j with
 |zero=>
  intro i m hi hm;obtain _|m:=m;omega;obtain rfl:i=l.length:=om
  simp-implicitDefEqProofs (maxSteps:=9^7) (disch:=try exact Dz) only[↓DN,↓kRet,UP,simprocAttr,Aj,CY,DV,Tryz.f128]<;>rfl
 |succ j ih=>
  intro i m hi hm;obtain _|m:=m;omega;have hk:i<l.length:=om;have hc:(i:Int)<l.length:=om;have hi0:(0:Int)<=i:=om
  by_cases he:l.getD i 0=x
  ·rw[jO (p:=fun i=>decide (l.getD i 0=x)) (by simpa using he)]
   simp-implicitDefEqProofs (maxSteps:=9^7) (disch:=try exact Dz) only[↓DN,↓kAsg,↓kRet,UP,simprocAttr,hc,hi0,he,CY,DV,Tryz.f128]
  ·rw[lT (p:=fun i=>decide (l.getD i 0=x)) (by simpa using he)];have ih':=ih (i+1) m om om;rw[cs1 i]at ih';clear ih
   simp-implicitDefEqProofs (maxSteps:=9^7) (disch:=try exact Dz) only[↓DN,↓kRet,UP,simprocAttr,hc,hi0,he,↓ih',CY,DV,Tryz.f128]
theorem aEn(hn:2<=n)(l:List Int)(x:Int)(hl:l.length<=4294967290)(hL:2^60<=L):aA env L n 128 [.d (.ivs l.length (ints l)),nI x] []=some (.d (.bool (decide (x∈l))),[]):=by
 have loop_c:=fun {R n k} hn=> @aIh R L n hn l x hl k l.length 0 L om om;simp only[Aq]at loop_c
 cases hs:seek (fun i=>decide (l.getD i 0=x)) l.length 0 with
 |none=>
  have hx:¬x∈l:=by
   intro hx;obtain⟨q,hq,e⟩:=Ck hx;have:=qF.1 hs q om om;simp only[decide_eq_false_iff_not]at this;exact this (by rw[Aa,Ae hq,e];rfl)
  simp only[hs]at loop_c;obtain _|n:=n;omega
  simp-implicitDefEqProofs (maxSteps:=9^7) (disch:=try exact Dz) only[↓DN,↓kAsg,UP,simprocAttr,↓loop_c,hx,aEd,YK,Tryz.f128]
 |some q=>
  obtain⟨h1,h2,h3,_⟩:=JA hs
  have hx:x∈l:=by
   simp only[decide_eq_true_eq]at h3;rw[<-h3];exact kK om
  simp only[hs]at loop_c;obtain _|n:=n;omega
  simp-implicitDefEqProofs (maxSteps:=9^7) (disch:=try exact Dz) only[↓DN,↓kAsg,UP,simprocAttr,↓loop_c,hx,aEd,YK,Tryz.f128]
theorem aEq:type_of% fun {L} l x hl hL=>kt fun hn=> @aEn L _ hn l x hl hL:=fun {L} l x hl hL=>kt fun hn=> @aEn L _ hn l x hl hL
theorem AH{L:Nat}{id0 g0 o0 len0:Nat}{x:Int}:KV L 128 [.sl id0 g0 o0 len0,nI x]:=fun _ _ _ _=>dA KD
def NG(dist r:List Int)(d:Int):Nat->Bool:=fun i=>decide (dist.getD (r.getD i 0).toNat 0=d)
def H4(dist:List Int)(mvs:List (List Int))(d:Int):Nat->Bool:=fun k=>(seek (NG dist (mvs.getD k []) d) (mvs.getD k []).length 0).isSome
theorem aGS{α:Type}{l:List α}{p:α->Bool}{q:Nat->Bool}{x:α}(hq:∀i,i<l.length->q i=p (l.getD i x)):(seek q l.length 0).isSome=l.any p:=by
 rw[Bool.eq_iff_iff,Eb,List.any_eq_true]
 constructor
 ·rintro⟨r,hr⟩;obtain⟨_,h2,h3,_⟩:=JA hr;refine⟨l.getD r x,?_,by rw[<-hq r om];exact h3⟩;rw[Aa,Ae om];exact Az om
 ·rintro⟨y,hy,hp⟩;obtain⟨r,hr,e⟩:=Ck hy
  cases hs:seek q l.length 0 with
  |some z=>exact⟨z,rfl⟩
  |none=>
   have:=qF.1 hs r om om;rw[hq r hr,Aa,Ae hr,Bb,e,hp]at this;cases this
theorem aK7{dist:List Int}{mvs:List (List Int)}{d:Int}:(seek (H4 dist mvs d) mvs.length 0).isSome=H6 mvs dist d:=by
 unfold H6;refine aGS (x:=[]) fun k hk=> ?_;unfold H4;exact aGS (x:=0) fun i hi=>rfl
theorem aAW(hn:1<=n){mvs:List (List Int)}{dist:List Int}{d:Int}{q:Nat}(hq:q<mvs.length)(hl:mvs.length<=4294967290)(hr:(mvs.getD q []).length<=4294967290)(hd:dist.length<=4294967290)(hm':∀x∈mvs.getD q [],0<=x/\x<dist.length){k:KE R}:∀(j i m:Nat) (hi:i+j=(mvs.getD q []).length) (hm:j<m),
  aS env (aA env L n) L 0 [] Bz18 (tE 1) (Z2 (Z1 (U2 (U1 (Z2 (Z1 (U16 (U8 (U2 (U1 ([]))))))))))) m (.d (.ivs mvs.length (aL mvs))::.d (.ivs dist.length (ints dist))::nI d::Y2 (Y1 (.d (.bool false)::nI q::nI i::Y16 (Y8 (Y2 (Y1 ([]))))))) [] k
  =match seek (NG dist (mvs.getD q []) d) j i with
   |none=>k (.exit 2) (.d (.ivs mvs.length (aL mvs))::.d (.ivs dist.length (ints dist))::nI d::Y2 (Y1 (.d (.bool false)::nI q::nI ((mvs.getD q []).length)::Y16 (Y8 (Y2 (Y1 ([]))))))) []
   |some r=>k .ret (.d (.ivs mvs.length (aL mvs))::.d (.ivs dist.length (ints dist))::nI d::Y2 (Y1 (.d (.bool true)::nI q::nI r::Y16 (Y8 (Y2 (Y1 ([]))))))) []:=by
 intro j;have hcq:(q:Int)<mvs.length:=om;have hq0:(0:Int)<=q:=om
 induction j with
 |zero=>
  intro i m hi hm;obtain _|m:=m;omega;obtain rfl:i=(mvs.getD q []).length:=om
  simp-implicitDefEqProofs (maxSteps:=9^7) (disch:=try exact Dz) only[↓DN,↓kRet,UP,simprocAttr,LA,hcq,hq0,Aj,wV,wN,Tryz.f152]<;>rfl
 |succ j ih=>
  intro i m hi hm;obtain _|m:=m;omega;have hk:i<(mvs.getD q []).length:=om;have hc:(i:Int)<(mvs.getD q []).length:=om;have hi0:(0:Int)<=i:=om;obtain⟨b1,b2⟩:=hm' _ (kK hk);have b3:((mvs.getD q []).getD i 0).toNat<dist.length:=om
  by_cases he:dist.getD ((mvs.getD q []).getD i 0).toNat 0=d
  ·rw[jO (p:=NG dist (mvs.getD q []) d) (by simpa [NG]using he)]
   simp-implicitDefEqProofs (maxSteps:=9^7) (disch:=try exact Dz) only[↓DN,↓kAsg,↓kRet,UP,simprocAttr,LA,hcq,hq0,hc,hi0,b1,b2,he,wV,wN,Tryz.f152]
  ·rw[lT (p:=NG dist (mvs.getD q []) d) (by simpa [NG]using he)];have ih':=ih (i+1) m om om;rw[cs1 i]at ih';clear ih
   simp-implicitDefEqProofs (maxSteps:=9^7) (disch:=try exact Dz) only[↓DN,↓kRet,UP,simprocAttr,LA,hcq,hq0,hc,hi0,b1,b2,he,↓ih',wV,wN,Tryz.f152]
theorem aBu(hn:1<=n)(hL:2^60<=L){mvs:List (List Int)}{dist:List Int}{d:Int}(hl:mvs.length<=4294967290)(hr:∀r∈mvs,r.length<=4294967290/\∀x∈r,0<=x/\x<dist.length)(hd:dist.length<=4294967290){k:KE R}:∀(j q m:Nat) (hi:q+j=mvs.length) (hm:j<m),
  aS env (aA env L n) L 0 [] Bz18 (tE 0) (Z2 (Z1 (U2 (U1 (Z2 (U16 (U8 (U4 ([]))))))))) m (.d (.ivs mvs.length (aL mvs))::.d (.ivs dist.length (ints dist))::nI d::Y2 (Y1 (.d (.bool false)::nI q::Y16 (Y8 (Y4 ([])))))) [] k
  =match seek (H4 dist mvs d) j q with
   |none=>k (.exit 0) (.d (.ivs mvs.length (aL mvs))::.d (.ivs dist.length (ints dist))::nI d::Y2 (Y1 (.d (.bool false)::nI (mvs.length)::Y16 (Y8 (Y4 ([])))))) []
   |some r=>k .ret (.d (.ivs mvs.length (aL mvs))::.d (.ivs dist.length (ints dist))::nI d::Y2 (Y1 (.d (.bool true)::nI r::Y16 (Y8 (Y4 ([])))))) []:=by
 intro j
 induction j with
 |zero=>
  intro q m hi hm;obtain _|m:=m;omega;obtain rfl:q=mvs.length:=om
  simp-implicitDefEqProofs (maxSteps:=9^7) (disch:=try exact Dz) only[↓DN,↓kRet,UP,simprocAttr,Aj,xX,yC,Tryz.f152]<;>rfl
 |succ j ih=>
  intro q m hi hm;obtain _|m:=m;omega;have hk:q<mvs.length:=om;have hc:(q:Int)<mvs.length:=om;have hq0:(0:Int)<=q:=om;have hmem:mvs.getD q []∈mvs:=by rw[Aa,Ae hk];exact Az hk
  obtain⟨r1,r2⟩:=hr _ hmem;have loop_c:=fun {R n k} hn=> @aAW R L n hn mvs dist d q hk hl r1 hd r2 k (mvs.getD q []).length 0 L om om;simp only[Aq]at loop_c
  cases hs:seek (NG dist (mvs.getD q []) d) (mvs.getD q []).length 0 with
  |some z=>
   rw[jO (p:=H4 dist mvs d) (by unfold H4;rw[hs];rfl)];simp only[hs]at loop_c
   simp-implicitDefEqProofs (maxSteps:=9^7) (disch:=try exact Dz) only[↓DN,↓kAsg,↓kRet,UP,simprocAttr,hc,↓loop_c,xX,yC,Tryz.f152]
  |none=>
   rw[lT (p:=H4 dist mvs d) (by unfold H4;rw[hs];rfl)];simp only[hs]at loop_c;have ih':=ih (q+1) m om om;rw[cs1 q]at ih';clear ih
   simp-implicitDefEqProofs (maxSteps:=9^7) (disch:=try exact Dz) only[↓DN,↓kAsg,↓kRet,UP,simprocAttr,hc,↓loop_c,↓ih',xX,yC,Tryz.f152]
theorem XR(hn:2<=n)(mvs:List (List Int))(dist:List Int)(d:Int)(hl:mvs.length<=4294967290)(hr:∀r∈mvs,r.length<=4294967290/\∀x∈r,0<=x/\x<dist.length)(hd:dist.length<=4294967290)(hL:2^60<=L):aA env L n 152 [.d (.ivs mvs.length (aL mvs)),.d (.ivs dist.length (ints dist)),nI d] []=some (.d (.bool (H6 mvs dist d)),[]):=by
 have loop_c:=fun {R n k} hn=> @aBu R L n hn hL mvs dist d hl hr hd k mvs.length 0 L om om;simp only[Aq]at loop_c;rw[<-aK7]
 cases hs:seek (H4 dist mvs d) mvs.length 0 with
 |none=>
  simp only[hs]at loop_c;obtain _|n:=n;omega
  simp-implicitDefEqProofs (maxSteps:=9^7) (disch:=try exact Dz) only[↓DN,↓kAsg,UP,simprocAttr,↓loop_c,X7,OE,Tryz.f152]
 |some q=>
  simp only[hs]at loop_c;obtain _|n:=n;omega
  simp-implicitDefEqProofs (maxSteps:=9^7) (disch:=try exact Dz) only[↓DN,↓kAsg,UP,simprocAttr,↓loop_c,X7,OE,Tryz.f152]
theorem aI1:type_of% fun {L} mvs dist d hl hr hd hL=>kt fun hn=> @XR L _ hn mvs dist d hl hr hd hL:=fun {L} mvs dist d hl hr hd hL=>kt fun hn=> @XR L _ hn mvs dist d hl hr hd hL
theorem PO{L:Nat}{id1 g1 o1 len1:Nat}{mvs:List (List Int)}{d:Int}:KV L 152 [.d (.ivs mvs.length (aL mvs)),.sl id1 g1 o1 len1,nI d]:=fun _ _ _ _=>dA CT
theorem aMD(hn:1<=n)(N:Net)(states:List Int)(i:Nat)(hi:i<N.us.length)(h1:N.ps.length<=1000)(h2:N.us.length<=1000)(hs:N.ps.length+i<states.length)(hs2:states.length<=4000)(ha:(N.us.getD i default).ac.length<=4294967290)(hq0:0<=states.getD (N.ps.length+i) 0)(hq1:states.getD (N.ps.length+i) 0<(N.us.getD i default).ac.length)(hL:2^60<=L):aA env L n 151 [.agg [.d (.ivs N.ps.length (sysD N.ps)),.d (.ivs N.us.length (fV N.us)),.d (.ivs N.start.length (ints N.start)),nI N.ls,nI N.kind,nI N.goal],.d (.ivs states.length (ints states)),nI i] []=some (.d (.bool (okN N states i)),[]):=by
 have g:=aQj hi
 have e1:IntKind.i64.wrap ((N.ps.length:Int)+i)=((N.ps.length+i:Nat):Int):=by
  rw[show(N.ps.length:Int)+i=((N.ps.length+i:Nat):Int) by omega];exact wS om om
 have hc1:((N.ps.length+i:Nat):Int)<states.length:=om;have hc2:(0:Int)<=((N.ps.length+i:Nat):Int):=om;have hi0:(0:Int)<=i:=om;have hi1:(i:Int)<N.us.length:=om;have hq3:(states.getD (N.ps.length+i) 0).toNat<(N.us.getD i default).ac.length:=om;unfold okN;generalize N.us.getD i default=a at *;generalize hz:N.ps.length+i=z at *;obtain _|n:=n;omega
 simp-implicitDefEqProofs (maxSteps:=9^7) (disch:=try exact Dz) only[↓DN,↓kAsg,↓kRet,UP,simprocAttr,NE,LA,Ce,Ci,hi0,hi1,g,e1,hc1,hc2,hq0,hq1,hq3,aLH,aGX,Tryz.f151]
theorem aEe{hq:H}{k:KA R}(hn:1<=n)(N:Net)(states:List Int)(i:Nat)(hi:i<N.us.length)(h1:N.ps.length<=1000)(h2:N.us.length<=1000)(hs:N.ps.length+i<states.length)(hs2:states.length<=4000)(ha:(N.us.getD i default).ac.length<=4294967290)(hq0:0<=states.getD (N.ps.length+i) 0)(hq1:states.getD (N.ps.length+i) 0<(N.us.getD i default).ac.length)(hL:2^60<=L):aW env (aA env L n) hq 151 [.agg [.d (.ivs N.ps.length (sysD N.ps)),.d (.ivs N.us.length (fV N.us)),.d (.ivs N.start.length (ints N.start)),nI N.ls,nI N.kind,nI N.goal],.d (.ivs states.length (ints states)),nI i] k=k (.d (.bool (okN N states i))) hq:=
 cK rfl (aMD hn N states i hi h1 h2 hs hs2 ha hq0 hq1 hL) rfl (.inl rfl)
theorem y7(hn:5<=n)(N:Net)(i:Nat)(q l:Int)(hi:N.ps.length<=i)(hi2:i-N.ps.length<N.us.length)(h1:N.ps.length<=1000)(h2:N.us.length<=1000)(u:Aut)(hu:N.us.getD (i-N.ps.length) default=u)(hs:bB u.nx)(hw:uR (aB u.al).length u.nx)(hq0:0<=q)(hq1:q<u.nx.length)(h0:0<=l)(h6:l<6)(hL:2^60<=L):aA env L n 157 [.agg [.d (.ivs N.ps.length (sysD N.ps)),.d (.ivs N.us.length (fV N.us)),.d (.ivs N.start.length (ints N.start)),nI N.ls,nI N.kind,nI N.goal],nI i,nI q,nI l] []=some (.d (.ivs 1 (ints [goI u.al u.nx q l])),[]):=by
 have g:=aPR hi2;rw[hu]at g
 have e1:IntKind.i64.wrap ((i:Int)-N.ps.length)=((i-N.ps.length:Nat):Int):=by
  rw[show(i:Int)-N.ps.length=((i-N.ps.length:Nat):Int) by omega];exact wS om om
 have hc:(N.ps.length:Int)<=i:=om;have hc1:((i-N.ps.length:Nat):Int)<N.us.length:=om;have hc2:(0:Int)<=((i-N.ps.length:Nat):Int):=om;have kc_g:=@aMn L u.al q l u.nx u.ac.length (aJ u.ac) hs hw hq0 hq1 h0 h6 hL;clear hu;generalize i-N.ps.length=z at *;obtain _|n:=n;omega
 simp-implicitDefEqProofs (maxSteps:=9^7) (disch:=try exact Dz) only[↓DN,↓kAsg,↓kRet,UP,simprocAttr,NE,Ay,Ce,hc,hc1,hc2,g,e1,↓kc_g,aCT,OT,Tryz.f157]<;>rfl
end
section
variable{R:Type}{L n:Nat}
theorem YH(hn:1<=n){c1 c2 c3 c4 c5 c6:D}{zs ss out ch:List Int}{l z:Int}{i q:Nat}(hi:i<zs.length)(hq:q<out.length)(hz:zs.getD i 0=z)(hzl:zs.length<=4000)(hol:out.length<=4294967290)(hcl:ch.length<=4294967290)(hb:0<=out.getD q 0*z/\out.getD q 0*z<=4294967296)(hcb:∀c∈ch,0<=c/\c<=65536){k:KE R}:∀(j p m:Nat) (o:List Int) (len:Nat) (hp:p+j=ch.length) (hm:j<m) (hlen:len=o.length) (ho:o.length+j<=4294967290),
  aS env (aA env L n) L 0 [] Bz7 (kJ 2) (U1 (Z4 (U2 (U1 (Z4 (Z2 (Z1 (U32 (U8 (U4 (U2 (U1 ([]))))))))))))) m (Y1 (.d (.ivs zs.length (ints zs))::.d (.ivs ss.length (ints ss))::nI l::.ptr 0 0 0::Y2 (Y1 (.d .nils::.sl 1 0 0 out.length::nI i::.d (.ivs ch.length (ints ch))::.sl 2 0 0 len::nI q::nI p::Y32 (Y8 (Y4 (Y2 (Y1 ([]))))))))) [.box [.d c1,.d c2,.d c3,.d c4,.d c5,.d c6],.arr (ints out) 1 0,.arr (ints o) 1 0] k
  =k (.exit 4) (Y1 (.d (.ivs zs.length (ints zs))::.d (.ivs ss.length (ints ss))::nI l::.ptr 0 0 0::Y2 (Y1 (.d .nils::.sl 1 0 0 out.length::nI i::.d (.ivs ch.length (ints ch))::.sl 2 0 0 (o++(ch.drop p).map fun c=>out.getD q 0*z+c).length::nI q::nI (ch.length)::Y32 (Y8 (Y4 (Y2 (Y1 ([]))))))))) [.box [.d c1,.d c2,.d c3,.d c4,.d c5,.d c6],.arr (ints out) 1 0,.arr (ints (o++(ch.drop p).map fun c=>out.getD q 0*z+c)) 1 0]:=by
 intro j;have hci:(i:Int)<zs.length:=om;have hcq:(q:Int)<out.length:=om;have hi0:(0:Int)<=i:=om;have hq0:(0:Int)<=q:=om
 induction j with
 |zero=>
  intro p m o len hp hm hlen ho;obtain _|m:=m;omega;obtain rfl:p=ch.length:=om;subst hlen
  simp-implicitDefEqProofs (maxSteps:=9^7) (disch:=try exact Dz) only[↓DN,↓kRet,UP,simprocAttr,Aj,FW,C1,Tryz.f150];simp
 |succ j ih=>
  intro p m o len hp hm hlen ho;obtain _|m:=m;omega;subst hlen;have hk:p<ch.length:=om;have hc:(p:Int)<ch.length:=om;have hp0:(0:Int)<=p:=om;obtain⟨b1,b2⟩:=hcb _ (kK hk);have ih':=ih (p+1) m (o++[out.getD q 0*z+ch.getD p 0]) (o.length+1) om om sm (by rw[Af,Co];omega);rw[cs1 p]at ih';rw[b7 hk (d:=0),Ah];simp only[Am,Av,Ao]at ih';clear ih
  simp-implicitDefEqProofs (maxSteps:=9^7) (disch:=try exact Dz) only[↓DN,↓kRet,UP,simprocAttr,hci,hcq,hi0,hq0,hc,hp0,hz,↓ih',FW,C1,Tryz.f150]
theorem aG7(z:Int)(ch:List Int):∀out:List Int,(mulN out z ch).length=out.length*ch.length
 | []=>by simp[mulN]
 |o::out=>by
  have ih:=aG7 z ch out;unfold mulN at ih|-;rw[List.flatMap_cons,Af,ih,Ay,Ad,Nat.succ_mul,Nat.add_comm]
theorem YL(hn:1<=n)(hL:2^60<=L){c1 c2 c3 c4 c5 c6:D}{zs ss out ch:List Int}{l z:Int}{i:Nat}(hi:i<zs.length)(hz:zs.getD i 0=z)(hzl:zs.length<=4000)(hol:out.length<=4294967290)(hcl:ch.length<=4294967290)(hb:∀o∈out,0<=o*z/\o*z<=4294967296)(hcb:∀c∈ch,0<=c/\c<=65536){k:KE R}:∀(j q m:Nat) (o:List Int) (len:Nat) (hp:q+j=out.length) (hm:j<m) (hlen:len=o.length) (ho:o.length+j*ch.length<=4294967290),
  aS env (aA env L n) L 0 [] Bz7 (kJ 1) (U1 (Z4 (U2 (U1 (Z4 (Z2 (U32 (U16 ([]))))))))) m (Y1 (.d (.ivs zs.length (ints zs))::.d (.ivs ss.length (ints ss))::nI l::.ptr 0 0 0::Y2 (Y1 (.d .nils::.sl 1 0 0 out.length::nI i::.d (.ivs ch.length (ints ch))::.sl 2 0 0 len::nI q::Y32 (Y16 ([])))))) [.box [.d c1,.d c2,.d c3,.d c4,.d c5,.d c6],.arr (ints out) 1 0,.arr (ints o) 1 0] k
  =k (.exit 2) (Y1 (.d (.ivs zs.length (ints zs))::.d (.ivs ss.length (ints ss))::nI l::.ptr 0 0 0::Y2 (Y1 (.d .nils::.sl 1 0 0 out.length::nI i::.d (.ivs ch.length (ints ch))::.sl 2 0 0 (o++mulN (out.drop q) z ch).length::nI (out.length)::Y32 (Y16 ([])))))) [.box [.d c1,.d c2,.d c3,.d c4,.d c5,.d c6],.arr (ints out) 1 0,.arr (ints (o++mulN (out.drop q) z ch)) 1 0]:=by
 intro j
 induction j with
 |zero=>
  intro q m o len hp hm hlen ho;obtain _|m:=m;omega;obtain rfl:q=out.length:=om;subst hlen
  simp-implicitDefEqProofs (maxSteps:=9^7) (disch:=try exact Dz) only[↓DN,↓kRet,UP,simprocAttr,Aj,GF,C0,Tryz.f150];simp[mulN]
 |succ j ih=>
  intro q m o len hp hm hlen ho;obtain _|m:=m;omega;subst hlen;have hk:q<out.length:=om;have hc:(q:Int)<out.length:=om;have hq0:(0:Int)<=q:=om;have hb':=hb _ (kK hk);rw[Nat.succ_mul]at ho;have loop_c:=fun {R n k} hn=> @YH R L n hn c1 c2 c3 c4 c5 c6 zs ss out ch l z i q hi hk hz hzl hol hcl hb' hcb k ch.length 0 L o o.length om om rfl om;simp only[Bc,Aq]at loop_c;have ih':=ih (q+1) m (o++ch.map fun c=>out.getD q 0*z+c) _ om om rfl (by rw[Af,Ay];omega);rw[cs1 q]at ih'
  have e:mulN (out.drop q) z ch=(ch.map fun c=>out.getD q 0*z+c)++mulN (out.drop (q+1)) z ch:=by
   rw[b7 hk (d:=0)];rfl
  rw[e,<-Am];clear ih e;generalize(ch.map fun c=>out.getD q 0*z+c)=w at *;simp only[Af]at ih' loop_c|-
  simp-implicitDefEqProofs (maxSteps:=9^7) (disch:=try exact Dz) only[↓DN,↓kAsg,↓kRet,UP,simprocAttr,hc,↓loop_c,↓ih',GF,C0,Tryz.f150]
def nexG(ch:Nat->List Int)(zs:List Int):Nat->Nat->List Int->List Int
 |0,_,out=>out
 |j+1,i,out=>nexG ch zs j (i+1) (mulN out (zs.getD i 0) (ch i))
theorem aNl{z b b2:Int}{ch out:List Int}(hz:0<=z)(hb:b*z+(z-1)<=b2)(ho:∀o∈out,0<=o/\o<=b)(hc:∀c∈ch,0<=c/\c<z):∀x∈mulN out z ch,0<=x/\x<=b2:=by
 intro x hx;obtain⟨o,h1,h2⟩:=Di.1 hx;obtain⟨c,h3,rfl⟩:=Bp.1 h2;obtain⟨o0,o1⟩:=ho o h1;obtain⟨c0,c1⟩:=hc c h3;have m0:0<=o*z:=Int.mul_nonneg o0 hz;have m1:o*z<=b*z:=Dv o1 hz;omega
theorem YN(hn:6<=n)(hL:2^60<=L){c1 c2 c3 c4 c5 c6:D}{zs ss:List Int}{l:Int}{ch:Nat->List Int}{bnd:Nat->Int}(hzs:zs.length=ss.length)(hsl:ss.length<=6)
  (kc_c:∀(i:Nat),i<ss.length->∀ {R:Type} {n:Nat} {hq:H} {k:KA R},5<=n->aW env (aA env L n) hq 157 [.agg [.d c1,.d c2,.d c3,.d c4,.d c5,.d c6],nI i,nI (ss.getD i 0),nI l] k=k (.d (.ivs (ch i).length (ints (ch i)))) hq)
  (hz:∀i,i<ss.length->0<zs.getD i 0/\zs.getD i 0<=65536) (hcl:∀i,i<ss.length->(ch i).length<=16) (hcb:∀i,i<ss.length->∀c∈ch i,0<=c/\c<zs.getD i 0) (hbn:∀i,i<ss.length->0<=bnd i/\bnd i*zs.getD i 0<=4294967296/\bnd i*zs.getD i 0+(zs.getD i 0-1)<=bnd (i+1)) {k:KE R}:∀(j i m:Nat) (out:List Int) (len:Nat) (hp:i+j=ss.length) (hm:j<m) (hlen:len=out.length) (ho:out.length<=16^i) (hob:∀o∈out,0<=o/\o<=bnd i),
  aS env (aA env L n) L 0 [] Bz7 (kJ 0) (U1 (Z4 (U2 (U1 (Z2 (Z1 (U32 (U16 (U2 (U1 ([]))))))))))) m (Y1 (.d (.ivs zs.length (ints zs))::.d (.ivs ss.length (ints ss))::nI l::.ptr 0 0 0::Y2 (Y1 (.d .nils::.sl 1 0 0 len::nI i::Y32 (Y16 (Y2 (Y1 ([])))))))) [.box [.d c1,.d c2,.d c3,.d c4,.d c5,.d c6],.arr (ints out) 1 0] k
  =k (.exit 0) (Y1 (.d (.ivs zs.length (ints zs))::.d (.ivs ss.length (ints ss))::nI l::.ptr 0 0 0::Y2 (Y1 (.d .nils::.sl 1 0 0 (nexG ch zs j i out).length::nI (ss.length)::Y32 (Y16 (Y2 (Y1 ([])))))))) [.box [.d c1,.d c2,.d c3,.d c4,.d c5,.d c6],.arr (ints (nexG ch zs j i out)) 1 0]:=by
 intro j
 induction j with
 |zero=>
  intro i m out len hp hm hlen ho hob;obtain _|m:=m;omega;obtain rfl:i=ss.length:=om;subst hlen
  simp-implicitDefEqProofs (maxSteps:=9^7) (disch:=try exact Dz) only[↓DN,↓kRet,UP,simprocAttr,Aj,E9,CI,Tryz.f150]<;>rfl
 |succ j ih=>
  intro i m out len hp hm hlen ho hob;obtain _|m:=m;omega;subst hlen;have hk:i<ss.length:=om;have hkz:i<zs.length:=om;have hc:(i:Int)<ss.length:=om;have hi0:(0:Int)<=i:=om;obtain⟨z1,z2⟩:=hz i hk;obtain⟨n0,n1,n2⟩:=hbn i hk;have hch:=hcl i hk;have hcb':=hcb i hk;have p16:(16:Nat)^i<=16^5:=Nat.pow_le_pow_right dc om;have hol:out.length<=1048576:=Bv ho (Bv p16 dc);have kc_d:=fun {R:Type} {n:Nat} {hq:H} {k:KA R} (hn:5<=n)=>kc_c i hk (R:=R) (n:=n) (hq:=hq) (k:=k) hn;have hmul:out.length*(ch i).length<=16777216:=Bv (Nat.mul_le_mul hol hch) dc
  have loop_c:=fun {R n k} hn=> @YL R L n hn hL c1 c2 c3 c4 c5 c6 zs ss out (ch i) l (zs.getD i 0) i hkz rfl om om om (fun o h=>by
   obtain⟨o0,o1⟩:=hob o h;exact⟨Int.mul_nonneg o0 om,Int.le_trans (Dv o1 om) n1⟩) (fun c h=>by have:=hcb' c h;omega) k out.length 0 L [] 0 om om rfl (by simp;omega)
  simp only[Bc,Aq,Ao,nR]at loop_c;have hb2:=aNl (b2:=bnd (i+1)) om n2 hob hcb'
  have hl2:(mulN out (zs.getD i 0) (ch i)).length<=16^(i+1):=by
   rw[aG7,Nat.pow_succ];exact Nat.mul_le_mul ho hch
  have ih':=ih (i+1) m (mulN out (zs.getD i 0) (ch i)) _ om om rfl hl2 hb2;rw[cs1 i]at ih';simp only[nexG];clear ih hb2 hl2 hmul hbn hcb hcl hz kc_c n0 n1 n2 hcb';generalize mulN out (zs.getD i 0) (ch i)=w at *;generalize ch i=chi at *
  simp-implicitDefEqProofs (maxSteps:=9^7) (disch:=try exact Dz) only[↓DN,↓kAsg,↓kRet,UP,simprocAttr,hc,hi0,↓kc_d,↓loop_c,↓ih',E9,CI,Tryz.f150]
theorem R0(hn:7<=n)(hL:2^60<=L){n1 n2 n3:Nat}{d1 d2 d3:List D}{al kd go:Int}{zs ss:List Int}{l:Int}{ch:Nat->List Int}{bnd:Nat->Int}(hzs:zs.length=ss.length)(hsl:ss.length<=6)
  (kc_c:∀(i:Nat),i<ss.length->∀ {R:Type} {n:Nat} {hq:H} {k:KA R},5<=n->aW env (aA env L n) hq 157 [.agg [.d (.ivs n1 d1),.d (.ivs n2 d2),.d (.ivs n3 d3),nI al,nI kd,nI go],nI i,nI (ss.getD i 0),nI l] k=k (.d (.ivs (ch i).length (ints (ch i)))) hq)
  (hz:∀i,i<ss.length->0<zs.getD i 0/\zs.getD i 0<=65536) (hcl:∀i,i<ss.length->(ch i).length<=16) (hcb:∀i,i<ss.length->∀c∈ch i,0<=c/\c<zs.getD i 0) (hb0:0<=bnd 0) (hbn:∀i,i<ss.length->0<=bnd i/\bnd i*zs.getD i 0<=4294967296/\bnd i*zs.getD i 0+(zs.getD i 0-1)<=bnd (i+1)):
  aA env L n 150 [.agg [.d (.ivs n1 d1),.d (.ivs n2 d2),.d (.ivs n3 d3),nI al,nI kd,nI go],.d (.ivs zs.length (ints zs)),.d (.ivs ss.length (ints ss)),nI l] []=some (.d (.ivs (nexG ch zs ss.length 0 [0]).length (ints (nexG ch zs ss.length 0 [0]))),[]):=by
 have loop_c:=fun {R n k} hn=> @YN R L n hn hL (.ivs n1 d1) (.ivs n2 d2) (.ivs n3 d3) (.int .i64 al) (.int .i64 kd) (.int .i64 go) zs ss l ch bnd hzs hsl kc_c hz hcl hcb hbn k ss.length 0 L [0] 1 om om rfl sm (fun o h=>by simp at h;subst h;exact⟨Int.le_refl _,hb0⟩);simp only[Aq]at loop_c;generalize nexG ch zs ss.length 0 [0]=w at *;have e:ints [0]=[.int .i64 0]:=rfl;rw[e]at loop_c;have e4:(ints w).take w.length=ints w:=dX (Ab _);clear hz hcl hcb hbn kc_c;obtain _|n:=n;omega
 simp-implicitDefEqProofs (maxSteps:=9^7) (disch:=try exact Dz) only[↓DN,↓kAsg,↓kRet,UP,simprocAttr,↓loop_c,e4,aHG,XT,Tryz.f150]
end
section
variable{R:Type}{L n:Nat}
def tabD(t:List (List (List Int))):List D:=t.map fun r=>.ivs r.length (aL r)
theorem aNu:tabD []=[]:=rfl
theorem KU{l:List (List (List Int))}:(tabD l).length=l.length:=by simp[tabD]
theorem ZG{l:List (List (List Int))}{k:Nat}(h:l.length<=k):(tabD l).take k=tabD l:=Cf (by rw[KU];exact h)
theorem aHU{l:List (List (List Int))}{k:Nat}(h:k<l.length):(((tabD l).drop k).map A.d).head? =some (.d (.ivs (l.getD k []).length (aL (l.getD k [])))):=by
 rw[List.head?_map,Cy,tabD,Bd,Aa,Ae h];rfl
theorem aNx{l:List (List (List Int))}{r:List (List Int)}{z:Nat}(h:z=r.length):tabD l++[.ivs z (aL r)]=tabD (l++[r]):=by
 subst h;simp[tabD]
theorem TE:type_of% (AI @KU (AI @ZG @aHU)):=
 ⟨@KU,@ZG,@aHU⟩
theorem Z0(hn:8<=n)(hL:2^60<=L){c1 c2 c3 c4 c5 c6:D}{zs ss ls:List Int}{nx:Int->List Int}{out:List (List (List Int))}{tt v:Int}{ol:Nat}(hll:ls.length<=1000)(hzl:zs.length<=4000)(hsl:ss.length<=4000)(hol:out.length<=4294967290)
  (kc_x:∀(l:Int),l∈ls->∀ {R:Type} {n:Nat} {hq:H} {k:KA R},7<=n->aW env (aA env L n) hq 150 [.agg [.d c1,.d c2,.d c3,.d c4,.d c5,.d c6],.d (.ivs zs.length (ints zs)),.d (.ivs ss.length (ints ss)),nI l] k=k (.d (.ivs (nx l).length (ints (nx l)))) hq)
  {k:KE R}:∀(j p m:Nat) (o:List (List Int)) (len:Nat) (hp:p+j=ls.length) (hm:j<m) (hlen:len=o.length) (ho:o.length+j<=4000),
  aS env (aA env L n) L 0 [] Bz17 (qO 1) (U1 (Z2 (Z1 (U2 (Z4 (Z2 (Z1 (U32 (U2 (U1 ([]))))))))))) m (Y1 (.d (.ivs zs.length (ints zs))::nI tt::.ptr 0 0 0::Y2 (.d .nils::.sl 1 0 0 ol::.d (.ivs ls.length (ints ls))::nI v::.d (.ivs ss.length (ints ss))::.sl 2 0 0 len::nI p::Y32 (Y2 (Y1 ([])))))) [.box [.d c1,.d c2,.d c3,.d c4,.d c5,.d c6],.arr (tabD out) 1 0,.arr (aL o) 1 0] k
  =k (.exit 2) (Y1 (.d (.ivs zs.length (ints zs))::nI tt::.ptr 0 0 0::Y2 (.d .nils::.sl 1 0 0 ol::.d (.ivs ls.length (ints ls))::nI v::.d (.ivs ss.length (ints ss))::.sl 2 0 0 (o++(ls.drop p).map nx).length::nI (ls.length)::Y32 (Y2 (Y1 ([])))))) [.box [.d c1,.d c2,.d c3,.d c4,.d c5,.d c6],.arr (tabD out) 1 0,.arr (aL (o++(ls.drop p).map nx)) 1 0]:=by
 intro j
 induction j with
 |zero=>
  intro p m o len hp hm hlen ho;obtain _|m:=m;omega;obtain rfl:p=ls.length:=om;subst hlen
  simp-implicitDefEqProofs (maxSteps:=9^7) (disch:=try exact Dz) only[↓DN,↓kRet,UP,simprocAttr,Aj,F0,CD,Tryz.f130];simp
 |succ j ih=>
  intro p m o len hp hm hlen ho;obtain _|m:=m;omega;subst hlen;have hk:p<ls.length:=om;have hc:(p:Int)<ls.length:=om;have hp0:(0:Int)<=p:=om;have kc_y:=fun {R:Type} {n:Nat} {hq:H} {k:KA R} (hn:7<=n)=>kc_x _ (kK hk) (R:=R) (n:=n) (hq:=hq) (k:=k) hn;have ih':=ih (p+1) m (o++[nx (ls.getD p 0)]) (o.length+1) om om sm (by rw[Af,Co];omega);rw[cs1 p]at ih';rw[b7 hk (d:=0),Ah];simp only[Am,Av,Ao]at ih';clear ih kc_x;generalize nx (ls.getD p 0)=w at *
  simp-implicitDefEqProofs (maxSteps:=9^7) (disch:=try exact Dz) only[↓DN,↓kRet,UP,simprocAttr,LA,hc,hp0,↓kc_y,RB,↓ih',F0,CD,Tryz.f130]
theorem ZT(hn:8<=n)(hL:2^60<=L){c1 c2 c3 c4 c5 c6:D}{zs ls:List Int}{nx:Int->Int->List Int}{tt:Nat}(hll:ls.length<=1000)(hzl:zs.length<=1000)(htt:tt<=16777216)(hzp:∀z∈zs,0<z/\z<=65536)
  (kc_x:∀(v:Nat) (l:Int),v<tt->l∈ls->∀ {R:Type} {n:Nat} {hq:H} {k:KA R},7<=n->aW env (aA env L n) hq 150 [.agg [.d c1,.d c2,.d c3,.d c4,.d c5,.d c6],.d (.ivs zs.length (ints zs)),.d (.ivs zs.length (ints (decN zs v))),nI l] k=k (.d (.ivs (nx v l).length (ints (nx v l)))) hq)
  {k:KE R}:∀(j v m:Nat) (o:List (List (List Int))) (len:Nat) (hp:v+j=tt) (hm:j<m) (hlen:len=o.length) (ho:o.length=v),
  aS env (aA env L n) L 0 [] Bz17 (qO 0) (U1 (Z2 (Z1 (U2 (Z4 (U32 (U4 (U2 ([]))))))))) m (Y1 (.d (.ivs zs.length (ints zs))::nI tt::.ptr 0 0 0::Y2 (.d .nils::.sl 1 0 0 len::.d (.ivs ls.length (ints ls))::nI v::Y32 (Y4 (Y2 ([])))))) [.box [.d c1,.d c2,.d c3,.d c4,.d c5,.d c6],.arr (tabD o) 1 0] k
  =k (.exit 0) (Y1 (.d (.ivs zs.length (ints zs))::nI tt::.ptr 0 0 0::Y2 (.d .nils::.sl 1 0 0 (o++(List.range' v j).map fun(x:Nat)=>ls.map (nx x)).length::.d (.ivs ls.length (ints ls))::nI tt::Y32 (Y4 (Y2 ([])))))) [.box [.d c1,.d c2,.d c3,.d c4,.d c5,.d c6],.arr (tabD (o++(List.range' v j).map fun(x:Nat)=>ls.map (nx x))) 1 0]:=by
 intro j
 induction j with
 |zero=>
  intro v m o len hp hm hlen ho;obtain _|m:=m;omega;obtain rfl:v=tt:=om;subst hlen
  simp-implicitDefEqProofs (maxSteps:=9^7) (disch:=try exact Dz) only[↓DN,↓kRet,UP,simprocAttr,Aj,EZ,CX,Tryz.f130]
  all_goals simp
 |succ j ih=>
  intro v m o len hp hm hlen ho;obtain _|m:=m;omega;subst hlen;have hc:(v:Int)<tt:=om;have hv0:(0:Int)<=v:=om;have hdl:=ZD zs v;have kc_d:=@O5 L zs v hzp hzl hv0 om hL;have loop_c:=fun {R n k} hn=> @Z0 R L n hn hL c1 c2 c3 c4 c5 c6 zs (decN zs v) ls (nx v) o tt v o.length hll om om om (fun l hl {R n hq k} hn=>by rw[hdl];exact kc_x v l om hl hn) k ls.length 0 L [] 0 om om rfl (by simp;omega);simp only[Bc,Aq,Ao,aEp,hdl]at loop_c;have ih':=ih (v+1) m (o++[ls.map (nx v)]) (o.length+1) om om sm (by simp;omega);rw[cs1 v]at ih';rw[Dn,Ah];simp only[Am,Av,Ao]at ih';clear ih kc_x;have hwl:(ls.map (nx v)).length=ls.length:=sm;generalize ls.map (nx v)=w at *;generalize decN zs v=ss at *
  simp-implicitDefEqProofs (maxSteps:=9^7) (disch:=try exact Dz) only[↓DN,↓kAsg,↓kRet,UP,simprocAttr,TE,LA,hc,↓kc_d,↓loop_c,aNx,↓ih',EZ,CX,Tryz.f130]
theorem aFV(hn:9<=n)(hL:2^60<=L){n1 n2 n3:Nat}{d1 d2 d3:List D}{kd go:Int}{zs:List Int}{al:Int}{nx:Int->Int->List Int}{tt:Nat}(hzl:zs.length<=1000)(htt:tt<=16777216)(hzp:∀z∈zs,0<z/\z<=65536)
  (kc_x:∀(v:Nat) (l:Int),v<tt->l∈aB al->∀ {R:Type} {n:Nat} {hq:H} {k:KA R},7<=n->aW env (aA env L n) hq 150 [.agg [.d (.ivs n1 d1),.d (.ivs n2 d2),.d (.ivs n3 d3),nI al,nI kd,nI go],.d (.ivs zs.length (ints zs)),.d (.ivs zs.length (ints (decN zs v))),nI l] k=k (.d (.ivs (nx v l).length (ints (nx v l)))) hq):
  aA env L n 130 [.agg [.d (.ivs n1 d1),.d (.ivs n2 d2),.d (.ivs n3 d3),nI al,nI kd,nI go],.d (.ivs zs.length (ints zs)),nI tt] []=some (.d (.ivs tt (tabD ((List.range tt).map fun(x:Nat)=>(aB al).map (nx x)))),[]):=by
 have hll:(aB al).length<=1000:=by have:=bV al;omega
 have loop_c:=fun {R n k} hn=> @ZT R L n hn hL (.ivs n1 d1) (.ivs n2 d2) (.ivs n3 d3) (.int .i64 al) (.int .i64 kd) (.int .i64 go) zs (aB al) nx tt hll hzl htt hzp kc_x k tt 0 L [] 0 om om rfl rfl;simp only[Aq,Ao,aNu,<-List.range_eq_range']at loop_c;have hwl:((List.range tt).map fun(x:Nat)=>(aB al).map (nx x)).length=tt:=sm;generalize(List.range tt).map (fun(x:Nat)=>(aB al).map (nx x))=w at *;have e4:(tabD w).take tt=tabD w:=ZG om;clear kc_x hzp;obtain _|n:=n;omega
 simp-implicitDefEqProofs (maxSteps:=9^7) (disch:=try exact Dz) only[↓DN,↓kAsg,↓kRet,UP,simprocAttr,↓fQ,TE,↓loop_c,e4,hwl,aHk,WR,Tryz.f130]
end
end Ev
end Go.Proofs.YthlkcebdfbjdoaaGreat
