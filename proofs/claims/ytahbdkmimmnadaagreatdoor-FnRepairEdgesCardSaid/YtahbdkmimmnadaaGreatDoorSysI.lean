/-
  Products of systems and automata as the reference searches them: plain laws.
-/
import Derived.Test.YtahbdkmimmnadaaGreatDoorDistG
import Derived.Test.YtahbdkmimmnadaaGreatDoorEdges
set_option linter.unusedSimpArgs false
set_option linter.unusedVariables false
set_option linter.unusedSectionVars false
set_option maxRecDepth 8000
set_option maxHeartbeats 4000000
namespace Go.Proofs.YtahbdkmimmnadaaGreatDoor
namespace Ev
def sysD:List Sys->List D
 | []=>[]
 |s::l=>.int .i64 s.al::.int .i64 s.st::.ivs s.es.length (aJ s.es)::sysD l
def jV:List Aut->List D
 | []=>[]
 |a::l=>.int .i64 a.al::.ivs a.nx.length (aN a.nx)::.ivs a.ac.length (aK a.ac)::jV l
theorem WU:sysD []=[]:=rfl
theorem kK:∀ {l:List Sys},(sysD l).length=l.length*3
 | []=>rfl
 |p::l=>by simp only[sysD,Ac,kK (l:=l)];omega
theorem FJ:∀ {l:List Aut},(jV l).length=l.length*3
 | []=>rfl
 |p::l=>by simp only[jV,Ac,FJ (l:=l)];omega
theorem vK:∀ {l:List Sys} {k:Nat},(sysD l).drop (k*3)=sysD (l.drop k)
 |l,0=>by simp
 | [],k+1=>by simp[sysD]
 |p::l,k+1=>by
  rw[Bz,Nat.one_mul];simp only[sysD,Dh];exact vK
theorem DV:∀ {l:List Aut} {k:Nat},(jV l).drop (k*3)=jV (l.drop k)
 |l,0=>by simp
 | [],k+1=>by simp[jV]
 |p::l,k+1=>by
  rw[Bz,Nat.one_mul];simp only[jV,Dh];exact DV
theorem qM{l:List Sys}{k:Nat}(h:l.length<=k):(sysD l).take (k*3)=sysD l:=Bx (by rw[kK];omega)
theorem aLx{l:List Sys}{k:Nat}(h:k<l.length):(((sysD l).drop (k*3)).map A.d).head? =some (.d (.int .i64 (l.getD k default).al)):=by
 rw[vK,bM h (d:=default)];rfl
theorem aPz{l:List Sys}{k:Nat}(h:k<l.length):(((sysD l).drop (k*3+1)).map A.d).head? =some (.d (.int .i64 (l.getD k default).st)):=by
 rw[<-Bg,vK,bM h (d:=default)];rfl
theorem aAc{l:List Sys}{k:Nat}(h:k<l.length):(((sysD l).drop (k*3+2)).map A.d).head? =some (.d (.ivs (l.getD k default).es.length (aJ (l.getD k default).es))):=by
 rw[<-Bg,vK,bM h (d:=default)];rfl
theorem aPI{l:List Aut}{k:Nat}(h:k<l.length):(((jV l).drop (k*3+1)).map A.d).head? =some (.d (.ivs (l.getD k default).nx.length (aN (l.getD k default).nx))):=by
 rw[<-Bg,DV,bM h (d:=default)];rfl
theorem aPq{l:List Aut}{k:Nat}(h:k<l.length):(((jV l).drop (k*3+2)).map A.d).head? =some (.d (.ivs (l.getD k default).ac.length (aK (l.getD k default).ac))):=by
 rw[<-Bg,DV,bM h (d:=default)];rfl
theorem aN8{l:List Aut}{k:Nat}(h:k<l.length):(((jV l).drop (k*3)).map A.d).take 3=[.d (.int .i64 (l.getD k default).al),.d (.ivs (l.getD k default).nx.length (aN (l.getD k default).nx)),.d (.ivs (l.getD k default).ac.length (aK (l.getD k default).ac))]:=by
 rw[DV,bM h (d:=default)];rfl
structure Net where
 ps:List Sys
 us:List Aut
 start:List Int
 ls:Int
 kind:Int
 goal:Int
def netC(N:Net):List D:=[.ivs N.ps.length (sysD N.ps),.ivs N.us.length (jV N.us),.ivs N.start.length (ints N.start),.int .i64 N.ls,.int .i64 N.kind,.int .i64 N.goal]
def aAf(N:Net):List Int:=N.ps.map (·.st)++N.us.map fun a=>(a.nx.length:Int)
def decR:List Int->Int->List Int
 | [],_=>[]
 |z::zs,node=>node.tmod z::decR zs (node.tdiv z)
def decN(zs:List Int)(node:Int):List Int:=(decR zs.reverse node).reverse
def encN:List Int->List Int->Int->Int
 |z::zs,s::ss,node=>encN zs ss (node*z+s)
 |_,_,node=>node
def eX(es:List Edge)(q l:Int):List Int:=(es.filter fun e=>decide (e.fr=q)&&decide (e.lt=l)).map (·.to)
def mulN(out:List Int)(z:Int)(ch:List Int):List Int:=out.flatMap fun o=>ch.map fun c=>o*z+c
def okN(N:Net)(states:List Int)(i:Nat):Bool:=(N.us.getD i default).ac.getD (states.getD (N.ps.length+i) 0).toNat false
def aG3(N:Net)(states:List Int)(mvs:List (List Int)):Bool:=
 if N.kind=0 then okN N states 0
 else if N.kind=1 then okN N states 0 !=okN N states 1
 else if N.kind=2 then okN N states 0&& !okN N states 1
 else if N.kind=3 then !okN N states 0
 else if N.kind=5 then decide (states.getD N.ps.length 0=N.goal)
 else mvs.all fun r=>r.isEmpty
section
variable{R:Type}{L n:Nat}
theorem NE:type_of% (AI @kK (AI @FJ @qM)):=
 ⟨@kK,@FJ,@qM⟩
theorem fV{l:List Int}{i:Nat}(h:i<l.length):l.getD i 0∈l:=by
 rw[Ab,Ae h];exact Bd h
theorem aNg{l:List Int}{j:Nat}(h:j<l.length):(l.take (j+1)).reverse=l.getD j 0::(l.take j).reverse:=by
 rw[Dt,Ae h,List.reverse_append,Ab,Ae h];rfl
def decE:List Int->Int->Int
 | [],n=>n
 |z::zs,n=>decE zs (n.tdiv z)
theorem N2:∀(zs:List Int) (n:Int),(decR zs n).length=zs.length
 | [],_=>rfl
 |z::zs,n=>by simp[decR,N2 zs]
theorem zH(zs:List Int)(n:Int):(decN zs n).length=zs.length:=by simp[decN,N2]
theorem YM(hn:1<=n){zs:List Int}(hz:∀z∈zs,0<z/\z<=65536)(hl:zs.length<=1000){k:KE R}:∀(j:Nat) (i node:Int) (m:Nat) (o:List Int) (len:Nat) (hi:i=(j:Int)-1) (hj:j<=zs.length) (h0:0<=node) (h1:node<=4294967296) (hm:j<m) (ho:o.length=zs.length) (hlen:len=zs.length),
  aV env (aA env L n) L 0 [] Bz54 (CP 0) (Z2 (U2 (Z2 (Z1 (U16 (U8 (U2 ([])))))))) m (.d (.ivs zs.length (ints zs))::nI node::Y2 (.d .nils::.sl 0 0 0 len::nI i::Y16 (Y8 (Y2 ([]))))) [.arr (ints o) 1 0] k
  =k (.exit 0) (.d (.ivs zs.length (ints zs))::nI (decE (zs.take j).reverse node)::Y2 (.d .nils::.sl 0 0 0 len::nI (-1)::Y16 (Y8 (Y2 ([]))))) [.arr (ints ((decR (zs.take j).reverse node).reverse++o.drop j)) 1 0]:=by
 intro j
 induction j with
 |zero=>
  intro i node m o len hi hj h0 h1 hm ho hlen;obtain _|m:=m;omega;obtain rfl:i= -1:=om
  simp-implicitDefEqProofs (maxSteps:=9^7) (disch:=try exact Dz) only[↓DN,↓kRet,UP,simprocAttr,C9,z4,Tryz.f157];simp[decR,decE]
 |succ j ih=>
  intro i node m o len hi hj h0 h1 hm ho hlen;obtain _|m:=m;omega;obtain rfl:i=(j:Int):=om;subst hlen;have hk:j<zs.length:=om;have hk2:j<o.length:=om;have hc:(j:Int)<zs.length:=om;obtain⟨z1,z2⟩:=hz _ (fV hk);have hz0:¬zs.getD j 0=0:=om;have t0:0<=node.tdiv (zs.getD j 0):=Cz h0 om
  have t1:node.tdiv (zs.getD j 0)<=node:=by
   rw[Int.tdiv_eq_ediv_of_nonneg h0];exact Int.ediv_le_self _ h0
  have ih':=ih ((j:Int)-1) (node.tdiv (zs.getD j 0)) m (o.set j (node.tmod (zs.getD j 0))) zs.length rfl om t0 om om (by simpa using ho) rfl;rw[aNg hk];simp only[decR,decE,List.reverse_cons,Ao,At,Am]
  have e:(o.set j (node.tmod (zs.getD j 0))).drop j=node.tmod (zs.getD j 0)::o.drop (j+1):=by
   rw[bM (d:=0) (by simpa using hk2),aDg hk2,if_pos rfl,List.drop_set_of_lt om]
  rw[e]at ih';clear ih e;have hj0:(0:Int)<=j:=om
  simp-implicitDefEqProofs (maxSteps:=9^7) (disch:=try exact Dz) only[↓DN,↓kRet,UP,simprocAttr,hc,hj0,↓EM,↓ih',C9,z4,Tryz.f157]
theorem OS(hn:2<=n)(zs:List Int)(node:Int)(hz:∀z∈zs,0<z/\z<=65536)(hl:zs.length<=1000)(h0:0<=node)(h1:node<=4294967296)(hL:2^60<=L):aA env L n 157 [.d (.ivs zs.length (ints zs)),nI node] []=some (.d (.ivs zs.length (ints (decN zs node))),[]):=by
 have loop_c:=fun {R n k} hn=> @YM R L n hn zs hz hl k zs.length ((zs.length:Int)-1) node L (List.replicate zs.length 0) zs.length rfl (Ad _) h0 h1 om sm rfl;have e:(List.replicate zs.length (0:Int)).drop zs.length=[]:=sm;rw[Cv,e,Ai]at loop_c;have e2:(decR zs.reverse node).reverse=decN zs node:=rfl;have e3:=zH zs node;rw[e2]at loop_c;generalize decN zs node=w at *;have e4:(ints w).take zs.length=ints w:=fJ om;obtain _|n:=n;omega
 simp-implicitDefEqProofs (maxSteps:=9^7) (disch:=try exact Dz) only[↓DN,↓kAsg,↓kRet,UP,simprocAttr,↓AN,↓loop_c,e4,e3,aEA,RY,Tryz.f157]
theorem OJ:type_of% fun {L} zs node hz hl h0 h1 hL=>ks fun hn=> @OS L _ hn zs node hz hl h0 h1 hL:=fun {L} zs node hz hl h0 h1 hL=>ks fun hn=> @OS L _ hn zs node hz hl h0 h1 hL
def MH:List Int->List Int->Int->Prop
 |z::zs,s::ss,node=>(0<=node*z/\node*z<=4294967296)/\(0<=node*z+s/\node*z+s<=4294967296)/\MH zs ss (node*z+s)
 | [],[],_=>True
 |_,_,_=>False
theorem aA1(hn:1<=n){zs ss:List Int}(hl:zs.length<=1000)(hls:ss.length=zs.length){k:KE R}:∀(j i:Nat) (node:Int) (m:Nat) (hi:i+j=zs.length) (hok:MH (zs.drop i) (ss.drop i) node) (hm:j<m),
  aV env (aA env L n) L 0 [] Bz62 (CO 0) (Z2 (U2 (Z2 (Z1 (U16 (U2 ([]))))))) m (.d (.ivs zs.length (ints zs))::.d (.ivs ss.length (ints ss))::Y2 (nI 0::nI node::nI i::Y16 (Y2 ([])))) [] k
  =k (.exit 0) (.d (.ivs zs.length (ints zs))::.d (.ivs ss.length (ints ss))::Y2 (nI 0::nI (encN (zs.drop i) (ss.drop i) node)::nI (zs.length)::Y16 (Y2 ([])))) []:=by
 intro j
 induction j with
 |zero=>
  intro i node m hi hok hm;obtain _|m:=m;omega;obtain rfl:i=zs.length:=om
  simp-implicitDefEqProofs (maxSteps:=9^7) (disch:=try exact Dz) only[↓DN,↓kRet,UP,simprocAttr,Al,DC,zK,Tryz.f159];simp[encN]
 |succ j ih=>
  intro i node m hi hok hm;obtain _|m:=m;omega;have hk:i<zs.length:=om;have hk2:i<ss.length:=om;have hc:(i:Int)<zs.length:=om;have hc2:(i:Int)<ss.length:=om;rw[bM hk (d:=0),bM hk2 (d:=0)]at hok|-;obtain⟨b1,b2,b3⟩:=hok;have ih':=ih (i+1) _ m om b3 om;rw[cs1 i]at ih';simp only[encN];clear ih b3
  simp-implicitDefEqProofs (maxSteps:=9^7) (disch:=try exact Dz) only[↓DN,↓kRet,UP,simprocAttr,hc,hc2,↓ih',DC,zK,Tryz.f159]
theorem aDY(hn:2<=n)(zs ss:List Int)(hl:zs.length<=1000)(hls:ss.length=zs.length)(hok:MH zs ss 0)(hL:2^60<=L):aA env L n 159 [.d (.ivs zs.length (ints zs)),.d (.ivs ss.length (ints ss))] []=some (nI (encN zs ss 0),[]):=by
 have loop_c:=fun {R n k} hn=> @aA1 R L n hn zs ss hl hls k zs.length 0 0 L om hok om;simp only[Ay,Av]at loop_c;obtain _|n:=n;omega
 simp-implicitDefEqProofs (maxSteps:=9^7) (disch:=try exact Dz) only[↓DN,↓kAsg,UP,simprocAttr,↓loop_c,aDX,RB,Tryz.f159]
theorem aD6{hq:H}{k:KA R}(hn:2<=n)(zs ss:List Int)(hl:zs.length<=1000)(hls:ss.length=zs.length)(hok:MH zs ss 0)(hL:2^60<=L):aU env (aA env L n) hq 159 [.d (.ivs zs.length (ints zs)),.d (.ivs ss.length (ints ss))] k=k (nI (encN zs ss 0)) hq:=
 cW rfl (aDY hn zs ss hl hls hok hL) rfl (.inl rfl)
theorem XR(hn:1<=n){N:Net}(h1:N.ps.length<=1000)(h2:N.us.length<=1000){k:KE R}:∀(j i m:Nat) (o:List Int) (len:Nat) (hi:i+j=N.ps.length) (hm:j<m) (hlen:len=o.length) (ho:o.length+j<=4000),
  aV env (aA env L n) L 0 [] Bz40 (qY 0) (U1 (Z4 (U32 (U4 ([]))))) m (Y1 (.ptr 0 0 0::.d .nils::.sl 1 0 0 len::nI i::Y32 (Y4 ([])))) [.box ((netC N).map A.d),.arr (ints o) 1 0] k
  =k (.exit 0) (Y1 (.ptr 0 0 0::.d .nils::.sl 1 0 0 (o++(N.ps.drop i).map (·.st)).length::nI (N.ps.length)::Y32 (Y4 ([])))) [.box ((netC N).map A.d),.arr (ints (o++(N.ps.drop i).map (·.st))) 1 0]:=by
 intro j
 induction j with
 |zero=>
  intro i m o len hi hm hlen ho;obtain _|m:=m;omega;obtain rfl:i=N.ps.length:=om;subst hlen
  simp-implicitDefEqProofs (maxSteps:=9^7) (disch:=try exact Dz) only[↓DN,↓kRet,UP,simprocAttr,netC,Al,GC,CD,Tryz.f154];simp
 |succ j ih=>
  intro i m o len hi hm hlen ho;obtain _|m:=m;omega;subst hlen;have hk:i<N.ps.length:=om;have hc:(i:Int)<N.ps.length:=om;have g:=aPz hk;have ih':=ih (i+1) m (o++[(N.ps.getD i default).st]) (o.length+1) om om sm (by rw[Ah,Bu];omega);rw[cs1 i]at ih';rw[bM hk (d:=default),Ag];simp only[Ao,At,Am]at ih';clear ih;generalize(N.ps.getD i default).st=s at *;simp only[netC,Ag,Ak]at ih'|-
  simp-implicitDefEqProofs (maxSteps:=9^7) (disch:=try exact Dz) only[↓DN,↓kRet,UP,simprocAttr,NE,Aw,Ba,Bg,hc,g,↓ih',GC,CD,Tryz.f154]
theorem W0(hn:1<=n){N:Net}(h1:N.ps.length<=1000)(h2:N.us.length<=1000)(h3:∀a∈N.us,a.nx.length<=1000){k:KE R}:∀(j i m:Nat) (o:List Int) (len i4:Nat) (hi:i+j=N.us.length) (hm:j<m) (hlen:len=o.length) (ho:o.length+j<=4000),
  aV env (aA env L n) L 0 [] Bz40 (qY 1) (U1 (Z4 (Z1 (U32 (U2 (U1 ([]))))))) m (Y1 (.ptr 0 0 0::.d .nils::.sl 1 0 0 len::nI i4::nI i::Y32 (Y2 (Y1 ([]))))) [.box ((netC N).map A.d),.arr (ints o) 1 0] k
  =k (.exit 2) (Y1 (.ptr 0 0 0::.d .nils::.sl 1 0 0 (o++(N.us.drop i).map fun a=>(a.nx.length:Int)).length::nI i4::nI (N.us.length)::Y32 (Y2 (Y1 ([]))))) [.box ((netC N).map A.d),.arr (ints (o++(N.us.drop i).map fun a=>(a.nx.length:Int))) 1 0]:=by
 intro j
 induction j with
 |zero=>
  intro i m o len i4 hi hm hlen ho;obtain _|m:=m;omega;obtain rfl:i=N.us.length:=om;subst hlen
  simp-implicitDefEqProofs (maxSteps:=9^7) (disch:=try exact Dz) only[↓DN,↓kRet,UP,simprocAttr,netC,Al,F0,CL,Tryz.f154];simp
 |succ j ih=>
  intro i m o len i4 hi hm hlen ho;obtain _|m:=m;omega;subst hlen;have hk:i<N.us.length:=om;have hc:(i:Int)<N.us.length:=om;have hmem:N.us.getD i default∈N.us:=by rw[Ab,Ae hk];exact Bd hk
  have ha:=h3 _ hmem;have g:=aPI hk;have ih':=ih (i+1) m (o++[((N.us.getD i default).nx.length:Int)]) (o.length+1) i4 om om sm (by rw[Ah,Bu];omega);rw[cs1 i]at ih';rw[bM hk (d:=default),Ag];simp only[Ao,At,Am]at ih';clear ih hmem;generalize N.us.getD i default=s at *;simp only[netC,Ag,Ak]at ih'|-
  simp-implicitDefEqProofs (maxSteps:=9^7) (disch:=try exact Dz) only[↓DN,↓kRet,UP,simprocAttr,NE,Aw,Ba,Bg,hc,g,↓ih',F0,CL,Tryz.f154]
theorem aEL(hn:2<=n)(N:Net)(h1:N.ps.length<=1000)(h2:N.us.length<=1000)(h3:∀a∈N.us,a.nx.length<=1000)(hL:2^60<=L):aA env L n 154 [.agg ((netC N).map A.d)] []=some (.d (.ivs (aAf N).length (ints (aAf N))),[]):=by
 have loop_a:=fun {R n k} hn=> @XR R L n hn N h1 h2 k N.ps.length 0 L [] 0 om om rfl (by simp;omega);have loop_b:=fun {R n k} hn=> @W0 R L n hn N h1 h2 h3 k N.us.length 0 L (N.ps.map (·.st)) (N.ps.map (·.st)).length N.ps.length om om rfl (by simp;omega);simp only[Ay,Av,Am,i7]at loop_a loop_b;have e:N.ps.map (·.st)++N.us.map (fun a=>(a.nx.length:Int))=aAf N:=rfl;rw[e]at loop_b;generalize aAf N=w at *;generalize N.ps.map (·.st)=v at *;have e4:(ints w).take w.length=ints w:=fJ (Ad _);simp only[netC,Ag,Ak]at loop_a loop_b|-;obtain _|n:=n;omega
 simp-implicitDefEqProofs (maxSteps:=9^7) (disch:=try exact Dz) only[↓DN,↓kAsg,↓kRet,UP,simprocAttr,↓loop_a,↓loop_b,e4,aEN,WH,Tryz.f154]
end
section
variable{R:Type}{L n:Nat}
theorem aHq(hn:1<=n){l:List Int}{x:Int}(hl:l.length<=4294967290){k:KE R}:∀(j i m:Nat) (hi:i+j=l.length) (hm:j<m),
  aV env (aA env L n) L 0 [] Bz66 (Q3 0) (Z2 (U2 (Z2 (U8 (U4 ([])))))) m (.d (.ivs l.length (ints l))::nI x::Y2 (.d (.bool false)::nI i::Y8 (Y4 ([])))) [] k
  =match seek (fun i=>decide (l.getD i 0=x)) j i with
   |none=>k (.exit 0) (.d (.ivs l.length (ints l))::nI x::Y2 (.d (.bool false)::nI (l.length)::Y8 (Y4 ([])))) []
   |some q=>k .ret (.d (.ivs l.length (ints l))::nI x::Y2 (.d (.bool true)::nI q::Y8 (Y4 ([])))) []:=by
 intro j
 induction j with
 |zero=>
  intro i m hi hm;obtain _|m:=m;omega;obtain rfl:i=l.length:=om
  simp-implicitDefEqProofs (maxSteps:=9^7) (disch:=try exact Dz) only[↓DN,↓kRet,UP,simprocAttr,Al,B4,DZ,Tryz.f215]<;>rfl
 |succ j ih=>
  intro i m hi hm;obtain _|m:=m;omega;have hk:i<l.length:=om;have hc:(i:Int)<l.length:=om;have hi0:(0:Int)<=i:=om
  by_cases he:l.getD i 0=x
  ·rw[iY (p:=fun i=>decide (l.getD i 0=x)) (by simpa using he)]
   simp-implicitDefEqProofs (maxSteps:=9^7) (disch:=try exact Dz) only[↓DN,↓kAsg,↓kRet,UP,simprocAttr,hc,hi0,he,B4,DZ,Tryz.f215]
  ·rw[kS (p:=fun i=>decide (l.getD i 0=x)) (by simpa using he)];have ih':=ih (i+1) m om om;rw[cs1 i]at ih';clear ih
   simp-implicitDefEqProofs (maxSteps:=9^7) (disch:=try exact Dz) only[↓DN,↓kRet,UP,simprocAttr,hc,hi0,he,↓ih',B4,DZ,Tryz.f215]
theorem aCT(hn:2<=n)(l:List Int)(x:Int)(hl:l.length<=4294967290)(hL:2^60<=L):aA env L n 215 [.d (.ivs l.length (ints l)),nI x] []=some (.d (.bool (decide (x∈l))),[]):=by
 have loop_c:=fun {R n k} hn=> @aHq R L n hn l x hl k l.length 0 L om om;simp only[Av]at loop_c
 cases hs:seek (fun i=>decide (l.getD i 0=x)) l.length 0 with
 |none=>
  have hx:¬x∈l:=by
   intro hx;obtain⟨q,hq,e⟩:=Dj hx;have:=kF.1 hs q om om;simp only[decide_eq_false_iff_not]at this;exact this (by rw[Ab,Ae hq,e];rfl)
  simp only[hs]at loop_c;obtain _|n:=n;omega
  simp-implicitDefEqProofs (maxSteps:=9^7) (disch:=try exact Dz) only[↓DN,↓kAsg,UP,simprocAttr,↓loop_c,hx,aDO,YI,Tryz.f215]
 |some q=>
  obtain⟨h1,h2,h3,_⟩:=HV hs
  have hx:x∈l:=by
   simp only[decide_eq_true_eq]at h3;rw[<-h3];exact fV om
  simp only[hs]at loop_c;obtain _|n:=n;omega
  simp-implicitDefEqProofs (maxSteps:=9^7) (disch:=try exact Dz) only[↓DN,↓kAsg,UP,simprocAttr,↓loop_c,hx,aDO,YI,Tryz.f215]
theorem aKF:type_of% fun {L} l x hl hL=>kt fun hn=> @aCT L _ hn l x hl hL:=fun {L} l x hl hL=>kt fun hn=> @aCT L _ hn l x hl hL
theorem VM{L:Nat}{id0 g0 o0 len0:Nat}{x:Int}:KV L 215 [.sl id0 g0 o0 len0,nI x]:=fun _ _ _ _=>d7 JV
def MT(dist r:List Int)(d:Int):Nat->Bool:=fun i=>decide (dist.getD (r.getD i 0).toNat 0=d)
def H0(dist:List Int)(mvs:List (List Int))(d:Int):Nat->Bool:=fun k=>(seek (MT dist (mvs.getD k []) d) (mvs.getD k []).length 0).isSome
theorem aG1{α:Type}{l:List α}{p:α->Bool}{q:Nat->Bool}{x:α}(hq:∀i,i<l.length->q i=p (l.getD i x)):(seek q l.length 0).isSome=l.any p:=by
 rw[Bool.eq_iff_iff,Eg,List.any_eq_true]
 constructor
 ·rintro⟨r,hr⟩;obtain⟨_,h2,h3,_⟩:=HV hr;refine⟨l.getD r x,?_,by rw[<-hq r om];exact h3⟩;rw[Ab,Ae om];exact Bd om
 ·rintro⟨y,hy,hp⟩;obtain⟨r,hr,e⟩:=Dj hy
  cases hs:seek q l.length 0 with
  |some z=>exact⟨z,rfl⟩
  |none=>
   have:=kF.1 hs r om om;rw[hq r hr,Ab,Ae hr,Bh,e,hp]at this;cases this
theorem aKe{dist:List Int}{mvs:List (List Int)}{d:Int}:(seek (H0 dist mvs d) mvs.length 0).isSome=JI mvs dist d:=by
 unfold JI;refine aG1 (x:=[]) fun k hk=> ?_;unfold H0;exact aG1 (x:=0) fun i hi=>rfl
theorem aBe(hn:1<=n){mvs:List (List Int)}{dist:List Int}{d:Int}{q:Nat}(hq:q<mvs.length)(hl:mvs.length<=4294967290)(hr:(mvs.getD q []).length<=4294967290)(hd:dist.length<=4294967290)(hm':∀x∈mvs.getD q [],0<=x/\x<dist.length){k:KE R}:∀(j i m:Nat) (hi:i+j=(mvs.getD q []).length) (hm:j<m),
  aV env (aA env L n) L 0 [] Bz17 (tK 1) (Z2 (Z1 (U2 (U1 (Z2 (Z1 (U16 (U8 (U2 (U1 ([]))))))))))) m (.d (.ivs mvs.length (aN mvs))::.d (.ivs dist.length (ints dist))::nI d::Y2 (Y1 (.d (.bool false)::nI q::nI i::Y16 (Y8 (Y2 (Y1 ([]))))))) [] k
  =match seek (MT dist (mvs.getD q []) d) j i with
   |none=>k (.exit 2) (.d (.ivs mvs.length (aN mvs))::.d (.ivs dist.length (ints dist))::nI d::Y2 (Y1 (.d (.bool false)::nI q::nI ((mvs.getD q []).length)::Y16 (Y8 (Y2 (Y1 ([]))))))) []
   |some r=>k .ret (.d (.ivs mvs.length (aN mvs))::.d (.ivs dist.length (ints dist))::nI d::Y2 (Y1 (.d (.bool true)::nI q::nI r::Y16 (Y8 (Y2 (Y1 ([]))))))) []:=by
 intro j;have hcq:(q:Int)<mvs.length:=om;have hq0:(0:Int)<=q:=om
 induction j with
 |zero=>
  intro i m hi hm;obtain _|m:=m;omega;obtain rfl:i=(mvs.getD q []).length:=om
  simp-implicitDefEqProofs (maxSteps:=9^7) (disch:=try exact Dz) only[↓DN,↓kRet,UP,simprocAttr,LA,hcq,hq0,Al,xU,xV,Tryz.f214]<;>rfl
 |succ j ih=>
  intro i m hi hm;obtain _|m:=m;omega;have hk:i<(mvs.getD q []).length:=om;have hc:(i:Int)<(mvs.getD q []).length:=om;have hi0:(0:Int)<=i:=om;obtain⟨b1,b2⟩:=hm' _ (fV hk);have b3:((mvs.getD q []).getD i 0).toNat<dist.length:=om
  by_cases he:dist.getD ((mvs.getD q []).getD i 0).toNat 0=d
  ·rw[iY (p:=MT dist (mvs.getD q []) d) (by simpa [MT]using he)]
   simp-implicitDefEqProofs (maxSteps:=9^7) (disch:=try exact Dz) only[↓DN,↓kAsg,↓kRet,UP,simprocAttr,LA,hcq,hq0,hc,hi0,b1,b2,he,xU,xV,Tryz.f214]
  ·rw[kS (p:=MT dist (mvs.getD q []) d) (by simpa [MT]using he)];have ih':=ih (i+1) m om om;rw[cs1 i]at ih';clear ih
   simp-implicitDefEqProofs (maxSteps:=9^7) (disch:=try exact Dz) only[↓DN,↓kRet,UP,simprocAttr,LA,hcq,hq0,hc,hi0,b1,b2,he,↓ih',xU,xV,Tryz.f214]
theorem aAj(hn:1<=n)(hL:2^60<=L){mvs:List (List Int)}{dist:List Int}{d:Int}(hl:mvs.length<=4294967290)(hr:∀r∈mvs,r.length<=4294967290/\∀x∈r,0<=x/\x<dist.length)(hd:dist.length<=4294967290){k:KE R}:∀(j q m:Nat) (hi:q+j=mvs.length) (hm:j<m),
  aV env (aA env L n) L 0 [] Bz17 (tK 0) (Z2 (Z1 (U2 (U1 (Z2 (U16 (U8 (U4 ([]))))))))) m (.d (.ivs mvs.length (aN mvs))::.d (.ivs dist.length (ints dist))::nI d::Y2 (Y1 (.d (.bool false)::nI q::Y16 (Y8 (Y4 ([])))))) [] k
  =match seek (H0 dist mvs d) j q with
   |none=>k (.exit 0) (.d (.ivs mvs.length (aN mvs))::.d (.ivs dist.length (ints dist))::nI d::Y2 (Y1 (.d (.bool false)::nI (mvs.length)::Y16 (Y8 (Y4 ([])))))) []
   |some r=>k .ret (.d (.ivs mvs.length (aN mvs))::.d (.ivs dist.length (ints dist))::nI d::Y2 (Y1 (.d (.bool true)::nI r::Y16 (Y8 (Y4 ([])))))) []:=by
 intro j
 induction j with
 |zero=>
  intro q m hi hm;obtain _|m:=m;omega;obtain rfl:q=mvs.length:=om
  simp-implicitDefEqProofs (maxSteps:=9^7) (disch:=try exact Dz) only[↓DN,↓kRet,UP,simprocAttr,Al,wZ,yJ,Tryz.f214]<;>rfl
 |succ j ih=>
  intro q m hi hm;obtain _|m:=m;omega;have hk:q<mvs.length:=om;have hc:(q:Int)<mvs.length:=om;have hq0:(0:Int)<=q:=om;have hmem:mvs.getD q []∈mvs:=by rw[Ab,Ae hk];exact Bd hk
  obtain⟨r1,r2⟩:=hr _ hmem;have loop_c:=fun {R n k} hn=> @aBe R L n hn mvs dist d q hk hl r1 hd r2 k (mvs.getD q []).length 0 L om om;simp only[Av]at loop_c
  cases hs:seek (MT dist (mvs.getD q []) d) (mvs.getD q []).length 0 with
  |some z=>
   rw[iY (p:=H0 dist mvs d) (by unfold H0;rw[hs];rfl)];simp only[hs]at loop_c
   simp-implicitDefEqProofs (maxSteps:=9^7) (disch:=try exact Dz) only[↓DN,↓kAsg,↓kRet,UP,simprocAttr,hc,↓loop_c,wZ,yJ,Tryz.f214]
  |none=>
   rw[kS (p:=H0 dist mvs d) (by unfold H0;rw[hs];rfl)];simp only[hs]at loop_c;have ih':=ih (q+1) m om om;rw[cs1 q]at ih';clear ih
   simp-implicitDefEqProofs (maxSteps:=9^7) (disch:=try exact Dz) only[↓DN,↓kAsg,↓kRet,UP,simprocAttr,hc,↓loop_c,↓ih',wZ,yJ,Tryz.f214]
theorem V2(hn:2<=n)(mvs:List (List Int))(dist:List Int)(d:Int)(hl:mvs.length<=4294967290)(hr:∀r∈mvs,r.length<=4294967290/\∀x∈r,0<=x/\x<dist.length)(hd:dist.length<=4294967290)(hL:2^60<=L):aA env L n 214 [.d (.ivs mvs.length (aN mvs)),.d (.ivs dist.length (ints dist)),nI d] []=some (.d (.bool (JI mvs dist d)),[]):=by
 have loop_c:=fun {R n k} hn=> @aAj R L n hn hL mvs dist d hl hr hd k mvs.length 0 L om om;simp only[Av]at loop_c;rw[<-aKe]
 cases hs:seek (H0 dist mvs d) mvs.length 0 with
 |none=>
  simp only[hs]at loop_c;obtain _|n:=n;omega
  simp-implicitDefEqProofs (maxSteps:=9^7) (disch:=try exact Dz) only[↓DN,↓kAsg,UP,simprocAttr,↓loop_c,VA,M9,Tryz.f214]
 |some q=>
  simp only[hs]at loop_c;obtain _|n:=n;omega
  simp-implicitDefEqProofs (maxSteps:=9^7) (disch:=try exact Dz) only[↓DN,↓kAsg,UP,simprocAttr,↓loop_c,VA,M9,Tryz.f214]
theorem aHI:type_of% fun {L} mvs dist d hl hr hd hL=>kt fun hn=> @V2 L _ hn mvs dist d hl hr hd hL:=fun {L} mvs dist d hl hr hd hL=>kt fun hn=> @V2 L _ hn mvs dist d hl hr hd hL
theorem OZ{L:Nat}{id1 g1 o1 len1:Nat}{mvs:List (List Int)}{d:Int}:KV L 214 [.d (.ivs mvs.length (aN mvs)),.sl id1 g1 o1 len1,nI d]:=fun _ _ _ _=>d7 B1
theorem aLv(hn:1<=n)(N:Net)(states:List Int)(i:Nat)(hi:i<N.us.length)(h1:N.ps.length<=1000)(h2:N.us.length<=1000)(hs:N.ps.length+i<states.length)(hs2:states.length<=4000)(ha:(N.us.getD i default).ac.length<=4294967290)(hq0:0<=states.getD (N.ps.length+i) 0)(hq1:states.getD (N.ps.length+i) 0<(N.us.getD i default).ac.length)(hL:2^60<=L):aA env L n 213 [.agg [.d (.ivs N.ps.length (sysD N.ps)),.d (.ivs N.us.length (jV N.us)),.d (.ivs N.start.length (ints N.start)),nI N.ls,nI N.kind,nI N.goal],.d (.ivs states.length (ints states)),nI i] []=some (.d (.bool (okN N states i)),[]):=by
 have g:=aPq hi
 have e1:IntKind.i64.wrap ((N.ps.length:Int)+i)=((N.ps.length+i:Nat):Int):=by
  rw[show(N.ps.length:Int)+i=((N.ps.length+i:Nat):Int) by omega];exact dW om om
 have hc1:((N.ps.length+i:Nat):Int)<states.length:=om;have hc2:(0:Int)<=((N.ps.length+i:Nat):Int):=om;have hi0:(0:Int)<=i:=om;have hi1:(i:Int)<N.us.length:=om;have hq3:(states.getD (N.ps.length+i) 0).toNat<(N.us.getD i default).ac.length:=om;unfold okN;generalize N.us.getD i default=a at *;generalize hz:N.ps.length+i=z at *;obtain _|n:=n;omega
 simp-implicitDefEqProofs (maxSteps:=9^7) (disch:=try exact Dz) only[↓DN,↓kAsg,↓kRet,UP,simprocAttr,NE,LA,Ba,Bg,hi0,hi1,g,e1,hc1,hc2,hq0,hq1,hq3,aK2,aGx,Tryz.f213]
theorem aDr{hq:H}{k:KA R}(hn:1<=n)(N:Net)(states:List Int)(i:Nat)(hi:i<N.us.length)(h1:N.ps.length<=1000)(h2:N.us.length<=1000)(hs:N.ps.length+i<states.length)(hs2:states.length<=4000)(ha:(N.us.getD i default).ac.length<=4294967290)(hq0:0<=states.getD (N.ps.length+i) 0)(hq1:states.getD (N.ps.length+i) 0<(N.us.getD i default).ac.length)(hL:2^60<=L):aU env (aA env L n) hq 213 [.agg [.d (.ivs N.ps.length (sysD N.ps)),.d (.ivs N.us.length (jV N.us)),.d (.ivs N.start.length (ints N.start)),nI N.ls,nI N.kind,nI N.goal],.d (.ivs states.length (ints states)),nI i] k=k (.d (.bool (okN N states i))) hq:=
 cW rfl (aLv hn N states i hi h1 h2 hs hs2 ha hq0 hq1 hL) rfl (.inl rfl)
theorem aCe(hn:5<=n)(N:Net)(i:Nat)(q l:Int)(hi:N.ps.length<=i)(hi2:i-N.ps.length<N.us.length)(h1:N.ps.length<=1000)(h2:N.us.length<=1000)(u:Aut)(hu:N.us.getD (i-N.ps.length) default=u)(hs:bD u.nx)(hw:vJ (aG u.al).length u.nx)(hq0:0<=q)(hq1:q<u.nx.length)(h0:0<=l)(h6:l<6)(hL:2^60<=L):aA env L n 252 [.agg [.d (.ivs N.ps.length (sysD N.ps)),.d (.ivs N.us.length (jV N.us)),.d (.ivs N.start.length (ints N.start)),nI N.ls,nI N.kind,nI N.goal],nI i,nI q,nI l] []=some (.d (.ivs 1 (ints [goI u.al u.nx q l])),[]):=by
 have g:=aN8 hi2;rw[hu]at g
 have e1:IntKind.i64.wrap ((i:Int)-N.ps.length)=((i-N.ps.length:Nat):Int):=by
  rw[show(i:Int)-N.ps.length=((i-N.ps.length:Nat):Int) by omega];exact dW om om
 have hc:(N.ps.length:Int)<=i:=om;have hc1:((i-N.ps.length:Nat):Int)<N.us.length:=om;have hc2:(0:Int)<=((i-N.ps.length:Nat):Int):=om;have kc_g:=@aLw L u.al q l u.nx u.ac.length (aK u.ac) hs hw hq0 hq1 h0 h6 hL;clear hu;generalize i-N.ps.length=z at *;obtain _|n:=n;omega
 simp-implicitDefEqProofs (maxSteps:=9^7) (disch:=try exact Dz) only[↓DN,↓kAsg,↓kRet,UP,simprocAttr,NE,Aw,Ba,hc,hc1,hc2,g,e1,↓kc_g,zF,uL,Tryz.f252]<;>rfl
end
section
variable{R:Type}{L n:Nat}
theorem W7(hn:1<=n){c1 c2 c3 c4 c5 c6:D}{zs ss out ch:List Int}{l z:Int}{i q:Nat}(hi:i<zs.length)(hq:q<out.length)(hz:zs.getD i 0=z)(hzl:zs.length<=4000)(hol:out.length<=4294967290)(hcl:ch.length<=4294967290)(hb:0<=out.getD q 0*z/\out.getD q 0*z<=4294967296)(hcb:∀c∈ch,0<=c/\c<=65536){k:KE R}:∀(j p m:Nat) (o:List Int) (len:Nat) (hp:p+j=ch.length) (hm:j<m) (hlen:len=o.length) (ho:o.length+j<=4294967290),
  aV env (aA env L n) L 0 [] Bz5 (kZ 2) (U1 (Z4 (U2 (U1 (Z4 (Z2 (Z1 (U32 (U8 (U4 (U2 (U1 ([]))))))))))))) m (Y1 (.d (.ivs zs.length (ints zs))::.d (.ivs ss.length (ints ss))::nI l::.ptr 0 0 0::Y2 (Y1 (.d .nils::.sl 1 0 0 out.length::nI i::.d (.ivs ch.length (ints ch))::.sl 2 0 0 len::nI q::nI p::Y32 (Y8 (Y4 (Y2 (Y1 ([]))))))))) [.box [.d c1,.d c2,.d c3,.d c4,.d c5,.d c6],.arr (ints out) 1 0,.arr (ints o) 1 0] k
  =k (.exit 4) (Y1 (.d (.ivs zs.length (ints zs))::.d (.ivs ss.length (ints ss))::nI l::.ptr 0 0 0::Y2 (Y1 (.d .nils::.sl 1 0 0 out.length::nI i::.d (.ivs ch.length (ints ch))::.sl 2 0 0 (o++(ch.drop p).map fun c=>out.getD q 0*z+c).length::nI q::nI (ch.length)::Y32 (Y8 (Y4 (Y2 (Y1 ([]))))))))) [.box [.d c1,.d c2,.d c3,.d c4,.d c5,.d c6],.arr (ints out) 1 0,.arr (ints (o++(ch.drop p).map fun c=>out.getD q 0*z+c)) 1 0]:=by
 intro j;have hci:(i:Int)<zs.length:=om;have hcq:(q:Int)<out.length:=om;have hi0:(0:Int)<=i:=om;have hq0:(0:Int)<=q:=om
 induction j with
 |zero=>
  intro p m o len hp hm hlen ho;obtain _|m:=m;omega;obtain rfl:p=ch.length:=om;subst hlen
  simp-implicitDefEqProofs (maxSteps:=9^7) (disch:=try exact Dz) only[↓DN,↓kRet,UP,simprocAttr,Al,FZ,CM,Tryz.f212];simp
 |succ j ih=>
  intro p m o len hp hm hlen ho;obtain _|m:=m;omega;subst hlen;have hk:p<ch.length:=om;have hc:(p:Int)<ch.length:=om;have hp0:(0:Int)<=p:=om;obtain⟨b1,b2⟩:=hcb _ (fV hk);have ih':=ih (p+1) m (o++[out.getD q 0*z+ch.getD p 0]) (o.length+1) om om sm (by rw[Ah,Bu];omega);rw[cs1 p]at ih';rw[bM hk (d:=0),Ag];simp only[Ao,At,Am]at ih';clear ih
  simp-implicitDefEqProofs (maxSteps:=9^7) (disch:=try exact Dz) only[↓DN,↓kRet,UP,simprocAttr,hci,hcq,hi0,hq0,hc,hp0,hz,↓ih',FZ,CM,Tryz.f212]
theorem NL(z:Int)(ch:List Int):∀out:List Int,(mulN out z ch).length=out.length*ch.length
 | []=>by simp[mulN]
 |o::out=>by
  have ih:=NL z ch out;unfold mulN at ih|-;rw[List.flatMap_cons,Ah,ih,Aw,Ac,Nat.succ_mul,Nat.add_comm]
theorem XV(hn:1<=n)(hL:2^60<=L){c1 c2 c3 c4 c5 c6:D}{zs ss out ch:List Int}{l z:Int}{i:Nat}(hi:i<zs.length)(hz:zs.getD i 0=z)(hzl:zs.length<=4000)(hol:out.length<=4294967290)(hcl:ch.length<=4294967290)(hb:∀o∈out,0<=o*z/\o*z<=4294967296)(hcb:∀c∈ch,0<=c/\c<=65536){k:KE R}:∀(j q m:Nat) (o:List Int) (len:Nat) (hp:q+j=out.length) (hm:j<m) (hlen:len=o.length) (ho:o.length+j*ch.length<=4294967290),
  aV env (aA env L n) L 0 [] Bz5 (kZ 1) (U1 (Z4 (U2 (U1 (Z4 (Z2 (U32 (U16 ([]))))))))) m (Y1 (.d (.ivs zs.length (ints zs))::.d (.ivs ss.length (ints ss))::nI l::.ptr 0 0 0::Y2 (Y1 (.d .nils::.sl 1 0 0 out.length::nI i::.d (.ivs ch.length (ints ch))::.sl 2 0 0 len::nI q::Y32 (Y16 ([])))))) [.box [.d c1,.d c2,.d c3,.d c4,.d c5,.d c6],.arr (ints out) 1 0,.arr (ints o) 1 0] k
  =k (.exit 2) (Y1 (.d (.ivs zs.length (ints zs))::.d (.ivs ss.length (ints ss))::nI l::.ptr 0 0 0::Y2 (Y1 (.d .nils::.sl 1 0 0 out.length::nI i::.d (.ivs ch.length (ints ch))::.sl 2 0 0 (o++mulN (out.drop q) z ch).length::nI (out.length)::Y32 (Y16 ([])))))) [.box [.d c1,.d c2,.d c3,.d c4,.d c5,.d c6],.arr (ints out) 1 0,.arr (ints (o++mulN (out.drop q) z ch)) 1 0]:=by
 intro j
 induction j with
 |zero=>
  intro q m o len hp hm hlen ho;obtain _|m:=m;omega;obtain rfl:q=out.length:=om;subst hlen
  simp-implicitDefEqProofs (maxSteps:=9^7) (disch:=try exact Dz) only[↓DN,↓kRet,UP,simprocAttr,Al,F9,CT,Tryz.f212];simp[mulN]
 |succ j ih=>
  intro q m o len hp hm hlen ho;obtain _|m:=m;omega;subst hlen;have hk:q<out.length:=om;have hc:(q:Int)<out.length:=om;have hq0:(0:Int)<=q:=om;have hb':=hb _ (fV hk);rw[Nat.succ_mul]at ho;have loop_c:=fun {R n k} hn=> @W7 R L n hn c1 c2 c3 c4 c5 c6 zs ss out ch l z i q hi hk hz hzl hol hcl hb' hcb k ch.length 0 L o o.length om om rfl om;simp only[Ay,Av]at loop_c;have ih':=ih (q+1) m (o++ch.map fun c=>out.getD q 0*z+c) _ om om rfl (by rw[Ah,Aw];omega);rw[cs1 q]at ih'
  have e:mulN (out.drop q) z ch=(ch.map fun c=>out.getD q 0*z+c)++mulN (out.drop (q+1)) z ch:=by
   rw[bM hk (d:=0)];rfl
  rw[e,<-Ao];clear ih e;generalize(ch.map fun c=>out.getD q 0*z+c)=w at *;simp only[Ah]at ih' loop_c|-
  simp-implicitDefEqProofs (maxSteps:=9^7) (disch:=try exact Dz) only[↓DN,↓kAsg,↓kRet,UP,simprocAttr,hc,↓loop_c,↓ih',F9,CT,Tryz.f212]
def nexG(ch:Nat->List Int)(zs:List Int):Nat->Nat->List Int->List Int
 |0,_,out=>out
 |j+1,i,out=>nexG ch zs j (i+1) (mulN out (zs.getD i 0) (ch i))
theorem aMD{z b b2:Int}{ch out:List Int}(hz:0<=z)(hb:b*z+(z-1)<=b2)(ho:∀o∈out,0<=o/\o<=b)(hc:∀c∈ch,0<=c/\c<z):∀x∈mulN out z ch,0<=x/\x<=b2:=by
 intro x hx;obtain⟨o,h1,h2⟩:=Du.1 hx;obtain⟨c,h3,rfl⟩:=Bv.1 h2;obtain⟨o0,o1⟩:=ho o h1;obtain⟨c0,c1⟩:=hc c h3;have m0:0<=o*z:=Cm o0 hz;have m1:o*z<=b*z:=Cq o1 hz;omega
theorem YF(hn:6<=n)(hL:2^60<=L){c1 c2 c3 c4 c5 c6:D}{zs ss:List Int}{l:Int}{ch:Nat->List Int}{bnd:Nat->Int}(hzs:zs.length=ss.length)(hsl:ss.length<=6)
  (kc_c:∀(i:Nat),i<ss.length->∀ {R:Type} {n:Nat} {hq:H} {k:KA R},5<=n->aU env (aA env L n) hq 252 [.agg [.d c1,.d c2,.d c3,.d c4,.d c5,.d c6],nI i,nI (ss.getD i 0),nI l] k=k (.d (.ivs (ch i).length (ints (ch i)))) hq)
  (hz:∀i,i<ss.length->0<zs.getD i 0/\zs.getD i 0<=65536) (hcl:∀i,i<ss.length->(ch i).length<=16) (hcb:∀i,i<ss.length->∀c∈ch i,0<=c/\c<zs.getD i 0) (hbn:∀i,i<ss.length->0<=bnd i/\bnd i*zs.getD i 0<=4294967296/\bnd i*zs.getD i 0+(zs.getD i 0-1)<=bnd (i+1)) {k:KE R}:∀(j i m:Nat) (out:List Int) (len:Nat) (hp:i+j=ss.length) (hm:j<m) (hlen:len=out.length) (ho:out.length<=16^i) (hob:∀o∈out,0<=o/\o<=bnd i),
  aV env (aA env L n) L 0 [] Bz5 (kZ 0) (U1 (Z4 (U2 (U1 (Z2 (Z1 (U32 (U16 (U2 (U1 ([]))))))))))) m (Y1 (.d (.ivs zs.length (ints zs))::.d (.ivs ss.length (ints ss))::nI l::.ptr 0 0 0::Y2 (Y1 (.d .nils::.sl 1 0 0 len::nI i::Y32 (Y16 (Y2 (Y1 ([])))))))) [.box [.d c1,.d c2,.d c3,.d c4,.d c5,.d c6],.arr (ints out) 1 0] k
  =k (.exit 0) (Y1 (.d (.ivs zs.length (ints zs))::.d (.ivs ss.length (ints ss))::nI l::.ptr 0 0 0::Y2 (Y1 (.d .nils::.sl 1 0 0 (nexG ch zs j i out).length::nI (ss.length)::Y32 (Y16 (Y2 (Y1 ([])))))))) [.box [.d c1,.d c2,.d c3,.d c4,.d c5,.d c6],.arr (ints (nexG ch zs j i out)) 1 0]:=by
 intro j
 induction j with
 |zero=>
  intro i m out len hp hm hlen ho hob;obtain _|m:=m;omega;obtain rfl:i=ss.length:=om;subst hlen
  simp-implicitDefEqProofs (maxSteps:=9^7) (disch:=try exact Dz) only[↓DN,↓kRet,UP,simprocAttr,Al,FF,CA,Tryz.f212]<;>rfl
 |succ j ih=>
  intro i m out len hp hm hlen ho hob;obtain _|m:=m;omega;subst hlen;have hk:i<ss.length:=om;have hkz:i<zs.length:=om;have hc:(i:Int)<ss.length:=om;have hi0:(0:Int)<=i:=om;obtain⟨z1,z2⟩:=hz i hk;obtain⟨n0,n1,n2⟩:=hbn i hk;have hch:=hcl i hk;have hcb':=hcb i hk;have p16:(16:Nat)^i<=16^5:=Nat.pow_le_pow_right dc om;have hol:out.length<=1048576:=Bf ho (Bf p16 dc);have kc_d:=fun {R:Type} {n:Nat} {hq:H} {k:KA R} (hn:5<=n)=>kc_c i hk (R:=R) (n:=n) (hq:=hq) (k:=k) hn;have hmul:out.length*(ch i).length<=16777216:=Bf (Nat.mul_le_mul hol hch) dc
  have loop_c:=fun {R n k} hn=> @XV R L n hn hL c1 c2 c3 c4 c5 c6 zs ss out (ch i) l (zs.getD i 0) i hkz rfl om om om (fun o h=>by
   obtain⟨o0,o1⟩:=hob o h;exact⟨Cm o0 om,Cy (Cq o1 om) n1⟩) (fun c h=>by have:=hcb' c h;omega) k out.length 0 L [] 0 om om rfl (by simp;omega)
  simp only[Ay,Av,Am,i7]at loop_c;have hb2:=aMD (b2:=bnd (i+1)) om n2 hob hcb'
  have hl2:(mulN out (zs.getD i 0) (ch i)).length<=16^(i+1):=by
   rw[NL,Nat.pow_succ];exact Nat.mul_le_mul ho hch
  have ih':=ih (i+1) m (mulN out (zs.getD i 0) (ch i)) _ om om rfl hl2 hb2;rw[cs1 i]at ih';simp only[nexG];clear ih hb2 hl2 hmul hbn hcb hcl hz kc_c n0 n1 n2 hcb';generalize mulN out (zs.getD i 0) (ch i)=w at *;generalize ch i=chi at *
  simp-implicitDefEqProofs (maxSteps:=9^7) (disch:=try exact Dz) only[↓DN,↓kAsg,↓kRet,UP,simprocAttr,hc,hi0,↓kc_d,↓loop_c,↓ih',FF,CA,Tryz.f212]
theorem aEP(hn:7<=n)(hL:2^60<=L){n1 n2 n3:Nat}{d1 d2 d3:List D}{al kd go:Int}{zs ss:List Int}{l:Int}{ch:Nat->List Int}{bnd:Nat->Int}(hzs:zs.length=ss.length)(hsl:ss.length<=6)
  (kc_c:∀(i:Nat),i<ss.length->∀ {R:Type} {n:Nat} {hq:H} {k:KA R},5<=n->aU env (aA env L n) hq 252 [.agg [.d (.ivs n1 d1),.d (.ivs n2 d2),.d (.ivs n3 d3),nI al,nI kd,nI go],nI i,nI (ss.getD i 0),nI l] k=k (.d (.ivs (ch i).length (ints (ch i)))) hq)
  (hz:∀i,i<ss.length->0<zs.getD i 0/\zs.getD i 0<=65536) (hcl:∀i,i<ss.length->(ch i).length<=16) (hcb:∀i,i<ss.length->∀c∈ch i,0<=c/\c<zs.getD i 0) (hb0:0<=bnd 0) (hbn:∀i,i<ss.length->0<=bnd i/\bnd i*zs.getD i 0<=4294967296/\bnd i*zs.getD i 0+(zs.getD i 0-1)<=bnd (i+1)):
  aA env L n 212 [.agg [.d (.ivs n1 d1),.d (.ivs n2 d2),.d (.ivs n3 d3),nI al,nI kd,nI go],.d (.ivs zs.length (ints zs)),.d (.ivs ss.length (ints ss)),nI l] []=some (.d (.ivs (nexG ch zs ss.length 0 [0]).length (ints (nexG ch zs ss.length 0 [0]))),[]):=by
 have loop_c:=fun {R n k} hn=> @YF R L n hn hL (.ivs n1 d1) (.ivs n2 d2) (.ivs n3 d3) (.int .i64 al) (.int .i64 kd) (.int .i64 go) zs ss l ch bnd hzs hsl kc_c hz hcl hcb hbn k ss.length 0 L [0] 1 om om rfl sm (fun o h=>by simp at h;subst h;exact⟨Int.le_refl _,hb0⟩);simp only[Av]at loop_c;generalize nexG ch zs ss.length 0 [0]=w at *;have e:ints [0]=[.int .i64 0]:=rfl;rw[e]at loop_c;have e4:(ints w).take w.length=ints w:=fJ (Ad _);clear hz hcl hcb hbn kc_c;obtain _|n:=n;omega
 simp-implicitDefEqProofs (maxSteps:=9^7) (disch:=try exact Dz) only[↓DN,↓kAsg,↓kRet,UP,simprocAttr,↓loop_c,e4,aGA,WC,Tryz.f212]
end
def sB(l:Int):UInt8:=UInt8.ofNat (97+l).toNat
theorem aDS{l:Int}(h0:0<=l)(h:l<=5):IntKind.u8.wrap (97+l)=((sB l).toNat:Int):=by
 rw[aPW om om];unfold sB;rw[UInt8.toNat_ofNat'];omega
theorem HM{L n:Nat}(hn:1<=n)(l:Int)(h0:0<=l)(h:l<=5):aA env L n 95 [nI l] []=some (.d (.int .u8 (sB l).toNat),[]):=by
 have e:IntKind.u8.wrap (97+l)=((sB l).toNat:Int):=aDS h0 h;obtain _|n:=n;omega
 simp-implicitDefEqProofs (maxSteps:=9^7) (disch:=try exact Dz) only[↓DN,↓kAsg,↓kRet,UP,simprocAttr,↓aBT,e,Z0,KI,Tryz.f95]
theorem aAq:type_of% fun {L} l h0 h=>ks fun hn=> @HM L _ hn l h0 h:=fun {L} l h0 h=>ks fun hn=> @HM L _ hn l h0 h

theorem aCM{al st:Int}{e:Edge}:cM al st e=(decide (0<=e.fr)&&(decide (e.fr<st)&&(decide (0<=e.to)&&(decide (e.to<st)&&(!decide (6<=e.lt)&&(decide (0<=e.lt)&&dT al e.lt)))))):=by
 have:decide (e.lt<6)= !decide (6<=e.lt):=by by_cases h:e.lt<6<;>simp[h]<;>omega
 unfold cM;rw[this]
 cases decide (0<=e.fr)<;>cases decide (e.fr<st)<;>cases decide (0<=e.to)<;>cases decide (e.to<st)<;>cases decide (0<=e.lt)<;>cases decide (6<=e.lt)<;>rfl
theorem aJS{al st:Int}{l:List Edge}{i:Nat}(h:lD al st l i=false):0<=(l.getD i default).fr/\(l.getD i default).fr<st/\0<=(l.getD i default).to/\(l.getD i default).to<st/\¬6<=(l.getD i default).lt/\0<=(l.getD i default).lt/\dT al (l.getD i default).lt=true/\(0<i->¬0<=cmpE (l.getD (i-1) default) (l.getD i default)):=by
 have hc:=JQ (e:=l.getD (i-1) default) (f:=l.getD i default);unfold lD at h;rw[aCM]at h;simp only[Ei,Ea,Ap,decide_eq_true_eq,Bool.not_eq_true',decide_eq_false_iff_not,Bool.and_eq_false_imp]at h;obtain⟨⟨h1,h2,h3,h4,h5,h6,h7⟩,h8⟩:=h;refine⟨h1,h2,h3,h4,h5,h6,h7,fun hz=> ?_⟩;rw[h8 hz]at hc
 simpa using hc
theorem aKn{al st:Int}{l:List Edge}{i:Nat}(h:lD al st l i=true):¬0<=(l.getD i default).fr\/0<=(l.getD i default).fr/\(¬(l.getD i default).fr<st\/(l.getD i default).fr<st/\(¬0<=(l.getD i default).to\/0<=(l.getD i default).to/\(¬(l.getD i default).to<st\/(l.getD i default).to<st/\(6<=(l.getD i default).lt\/¬6<=(l.getD i default).lt/\(¬0<=(l.getD i default).lt\/0<=(l.getD i default).lt/\(dT al (l.getD i default).lt=false\/dT al (l.getD i default).lt=true/\0<i/\0<=cmpE (l.getD (i-1) default) (l.getD i default))))))):=by
 have hc:=JQ (e:=l.getD (i-1) default) (f:=l.getD i default);unfold lD at h;rw[aCM]at h
 by_cases h1:0<=(l.getD i default).fr
 ·refine .inr ⟨h1,?_⟩
  by_cases h2:(l.getD i default).fr<st
  ·refine .inr ⟨h2,?_⟩
   by_cases h3:0<=(l.getD i default).to
   ·refine .inr ⟨h3,?_⟩
    by_cases h4:(l.getD i default).to<st
    ·refine .inr ⟨h4,?_⟩
     by_cases h5:6<=(l.getD i default).lt
     ·exact .inl h5
     ·refine .inr ⟨h5,?_⟩
      by_cases h6:0<=(l.getD i default).lt
      ·refine .inr ⟨h6,?_⟩
       cases h7:dT al (l.getD i default).lt with
       |false=>exact .inl rfl
       |true=>
        simp only[h1,h2,h3,h4,h5,h6,h7,decide_true,decide_false,Bool.not_false,Bm,Dg,Bool.false_or,Ap,decide_eq_true_eq]at h;rw[h.2]at hc;exact .inr ⟨rfl,h.1,by simpa using hc⟩
      ·exact .inl h6
    ·exact .inl h4
   ·exact .inl h3
  ·exact .inl h2
 ·exact .inl h1
theorem RN{R:Type}{L n:Nat}(hL:2^60<=L)(hn:5<=n){al st:Int}{l:List Edge}(hl:l.length<=4294967296){k:KE R}:∀(j:Nat) (i:Int) (m:Nat) (h0:0<=i) (hi:i+j=l.length) (hm:j<m),
  aV env (aA env L n) L 0 [] Bz15 (n6 0) Bz36 m (Y1 (.ptr 0 0 0::.d (.bool false)::Y16 (Y1 (.d (.ivs l.length (aJ l))::nI (l.length)::nI i::Y32 (Y8 (Y4 (Y1 ([])))))))) [.box [nI al,nI st,.d (.ivs l.length (aJ l))]] k
  =match seek (lD al st l) j i.toNat with
   |none=>k (.exit 0) (Y1 (.ptr 0 0 0::.d (.bool false)::Y16 (Y1 (.d (.ivs l.length (aJ l))::nI (l.length)::nI (l.length)::Y32 (Y8 (Y4 (Y1 ([])))))))) [.box [nI al,nI st,.d (.ivs l.length (aJ l))]]
   |some r=>k .ret (Y1 (.ptr 0 0 0::.d (.bool false)::Y16 (Y1 (.d (.ivs l.length (aJ l))::nI (l.length)::nI r::Y32 (Y8 (Y4 (Y1 ([])))))))) [.box [nI al,nI st,.d (.ivs l.length (aJ l))]]:=by
 intro j
 induction j with
 |zero=>
  intro i m h0 hi hm;obtain _|m:=m;omega;obtain rfl:i=l.length:=om
  simp-implicitDefEqProofs (maxSteps:=9^7) (disch:=try exact Dz) only[↓DN,↓kRet,UP,simprocAttr,Al,cG,cQ,Tryz.f77]<;>rfl
 |succ j ih=>
  intro i m h0 hi hm;obtain _|m:=m;omega;have hc:i<l.length:=om;have hk:i.toNat<l.length:=om;have e1:(i+1).toNat=i.toNat+1:=om;have e2:(i-1).toNat=i.toNat-1:=om;have e3:((i.toNat:Nat):Int)=i:=om
  cases hb:lD al st l i.toNat with
  |true=>
   rw[iY hb];have hb':=aKn hb;clear hb
   rcases hb' with b1|⟨b1,hb'⟩
   ·clear ih;rw[cG];simp only[cQ,Tryz.f77,SLM,simprocAttr]
    simp-implicitDefEqProofs (maxSteps:=9^7) (disch:=try exact Dz) only[↓DN,↓kAsg,↓kRet,UP,simprocAttr,↓gC,LE,hc,b1,e3]
   ·rcases hb' with b2|⟨b2,hb'⟩
    ·clear ih;rw[cG];simp only[cQ,Tryz.f77,SLM,simprocAttr]
     simp-implicitDefEqProofs (maxSteps:=9^7) (disch:=try exact Dz) only[↓DN,↓kAsg,↓kRet,UP,simprocAttr,↓gC,LE,hc,b1,b2,e3]
    ·rcases hb' with b3|⟨b3,hb'⟩
     ·clear ih;rw[cG];simp only[cQ,Tryz.f77,SLM,simprocAttr]
      simp-implicitDefEqProofs (maxSteps:=9^7) (disch:=try exact Dz) only[↓DN,↓kAsg,↓kRet,UP,simprocAttr,↓gC,LE,hc,b1,b2,b3,e3]
     ·rcases hb' with b4|⟨b4,hb'⟩
      ·clear ih;rw[cG];simp only[cQ,Tryz.f77,SLM,simprocAttr]
       simp-implicitDefEqProofs (maxSteps:=9^7) (disch:=try exact Dz) only[↓DN,↓kAsg,↓kRet,UP,simprocAttr,↓gC,LE,hc,b1,b2,b3,b4,e3]
      ·rcases hb' with b5|⟨b5,hb'⟩
       ·clear ih;rw[cG];simp only[cQ,Tryz.f77,SLM,simprocAttr]
        simp-implicitDefEqProofs (maxSteps:=9^7) (disch:=try exact Dz) only[↓DN,↓kAsg,↓kRet,UP,simprocAttr,↓gC,LE,hc,b1,b2,b3,b4,b5,e3]
       ·rcases hb' with b6|⟨b6,hb'⟩
        ·clear ih;rw[cG];simp only[cQ,Tryz.f77,SLM,simprocAttr]
         simp-implicitDefEqProofs (maxSteps:=9^7) (disch:=try exact Dz) only[↓DN,↓kAsg,↓kRet,UP,simprocAttr,↓gC,↓oG,LE,hc,b1,b2,b3,b4,b5,b6,e3]
        ·rcases hb' with b7|⟨b7,hz',hb3⟩
         ·clear ih;rw[cG];simp only[cQ,Tryz.f77,SLM,simprocAttr]
          simp-implicitDefEqProofs (maxSteps:=9^7) (disch:=try exact Dz) only[↓DN,↓kAsg,↓kRet,UP,simprocAttr,↓gC,↓oG,LE,hc,b1,b2,b3,b4,b5,b6,b7,e3]
         ·have hz:0<i:=om;have hk2:(i-1).toNat<l.length:=om;rw[<-e2]at hb3;clear hz' ih
          simp-implicitDefEqProofs (maxSteps:=9^7) (disch:=try exact Dz) only[↓DN,↓kAsg,↓kRet,UP,simprocAttr,↓gC,↓oG,↓j4,LE,hc,hz,b1,b2,b3,b4,b5,b6,b7,hb3,e3,cG,cQ,Tryz.f77]
  |false=>
   rw[kS hb];obtain⟨b1,b2,b3,b4,b5,b6,b7,hb2⟩:=aJS hb;clear hb
   by_cases hz:0<i
   ·have hb4:=hb2 om;have hk2:(i-1).toNat<l.length:=om;rw[<-e2]at hb4;clear hb2
    simp-implicitDefEqProofs (maxSteps:=9^7) (disch:=try exact Dz) only[↓DN,↓kRet,UP,simprocAttr,↓gC,↓oG,↓j4,LE,hc,hz,b1,b2,b3,b4,b5,b6,b7,hb4,↓ih,e1,cG,cQ,Tryz.f77]
   ·clear hb2
    simp-implicitDefEqProofs (maxSteps:=9^7) (disch:=try exact Dz) only[↓DN,↓kRet,UP,simprocAttr,↓gC,↓oG,LE,hc,hz,b1,b2,b3,b4,b5,b6,b7,↓ih,e1,cG,cQ,Tryz.f77]
theorem tD{R:Type}{L n m:Nat}(hL:2^60<=L)(hn:5<=n){al st:Int}{l:List Edge}(hl:l.length<=4294967296){k:KE R}(hm:l.length<m):
  aV env (aA env L n) L 0 [] Bz15 (n6 0) Bz36 m (Y1 (.ptr 0 0 0::.d (.bool false)::Y16 (Y1 (.d (.ivs l.length (aJ l))::nI (l.length)::nI 0::Y32 (Y8 (Y4 (Y1 ([])))))))) [.box [nI al,nI st,.d (.ivs l.length (aJ l))]] k
  =match seek (lD al st l) l.length 0 with
   |none=>k (.exit 0) (Y1 (.ptr 0 0 0::.d (.bool false)::Y16 (Y1 (.d (.ivs l.length (aJ l))::nI (l.length)::nI (l.length)::Y32 (Y8 (Y4 (Y1 ([])))))))) [.box [nI al,nI st,.d (.ivs l.length (aJ l))]]
   |some r=>k .ret (Y1 (.ptr 0 0 0::.d (.bool false)::Y16 (Y1 (.d (.ivs l.length (aJ l))::nI (l.length)::nI r::Y32 (Y8 (Y4 (Y1 ([])))))))) [.box [nI al,nI st,.d (.ivs l.length (aJ l))]]:=
 RN hL hn hl l.length 0 m om om hm
theorem FP{L n:Nat}(hn:6<=n)(al st:Int)(l:List Edge)(hl:l.length<=4294967296)(hL:2^60<=L):aA env L n 77 [.agg [nI al,nI st,.d (.ivs l.length (aJ l))]] []=some (.d (.bool (cF ⟨al,st,l⟩)),[]):=by
 unfold cF;simp only[]
 cases ha:fQ al with
 |false=>
  obtain _|n:=n;omega
  simp-implicitDefEqProofs (maxSteps:=9^7) (disch:=try exact Dz) only[↓DN,↓kAsg,↓kRet,UP,simprocAttr,↓dO,ha,kQ,jR,Tryz.f77]
 |true=>
  by_cases h1:st<1
  ·have e1:decide (1<=st)=false:=by simp;omega
   obtain _|n:=n;omega
   simp-implicitDefEqProofs (maxSteps:=9^7) (disch:=try exact Dz) only[↓DN,↓kAsg,↓kRet,UP,simprocAttr,↓dO,ha,h1,e1,kQ,jR,Tryz.f77]
  ·by_cases h2:16<st
   ·have e1:decide (st<=16)=false:=by simp;omega
    obtain _|n:=n;omega
    simp-implicitDefEqProofs (maxSteps:=9^7) (disch:=try exact Dz) only[↓DN,↓kAsg,↓kRet,UP,simprocAttr,↓dO,ha,h1,h2,e1,kQ,jR,Tryz.f77]
   ·have e1:decide (1<=st)=true:=by simp;omega
    have e2:decide (st<=16)=true:=by simp;omega
    cases hs:seek (lD al st l) l.length 0 with
    |none=>
     obtain _|n:=n;omega
     simp-implicitDefEqProofs (maxSteps:=9^7) (disch:=try exact Dz) only[↓DN,↓kAsg,↓kRet,UP,simprocAttr,↓dO,↓tD,ha,h1,h2,e1,e2,hs,kQ,jR,Tryz.f77]
    |some r=>
     obtain _|n:=n;omega
     simp-implicitDefEqProofs (maxSteps:=9^7) (disch:=try exact Dz) only[↓DN,↓kAsg,↓kRet,UP,simprocAttr,↓dO,↓tD,ha,h1,h2,e1,e2,hs,kQ,jR,Tryz.f77]
theorem GH:type_of% fun {L} al st l hl hL=>ks fun hn=> @FP L _ hn al st l hl hL:=fun {L} al st l hl hL=>ks fun hn=> @FP L _ hn al st l hl hL
end Ev
end Go.Proofs.YtahbdkmimmnadaaGreatDoor
