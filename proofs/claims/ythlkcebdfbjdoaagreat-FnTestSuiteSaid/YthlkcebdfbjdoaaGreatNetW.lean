/-
  Products as the reference searches them, walked: sizes, nodes, where a letter leads.
-/
import Derived.Test.YthlkcebdfbjdoaaGreatNetL
set_option linter.unusedSimpArgs false
set_option linter.unusedVariables false
set_option maxRecDepth 8000
set_option maxHeartbeats 4000000
namespace Go.Proofs.YthlkcebdfbjdoaaGreat
namespace Ev
variable{R:Type}{L n:Nat}
theorem NE:type_of% (AI @BN (AI @xG (AI @aIC @aEJ))):=
 ⟨@BN,@xG,@aIC,@aEJ⟩
theorem lN{l:List Int}{i:Nat}(h:i<l.length):l.getD i 0∈l:=by
 rw[Aa,Ae h];exact Az h
theorem aQH{l:List Int}{j:Nat}(h:j<l.length):(l.take (j+1)).reverse=l.getD j 0::(l.take j).reverse:=by
 rw[List.take_add_one,Ae h,List.reverse_append,Aa,Ae h];rfl
def decE:List Int->Int->Int
 | [],n=>n
 |z::zs,n=>decE zs (n.tdiv z)
theorem aGZ:∀(zs:List Int) (n:Int),(decR zs n).length=zs.length
 | [],_=>rfl
 |z::zs,n=>by simp[decR,aGZ zs]
theorem ZQ(zs:List Int)(n:Int):(decN zs n).length=zs.length:=by simp[decN,aGZ]
theorem aBu(hn:1<=n){zs:List Int}(hz:∀z∈zs,0<z/\z<=65536)(hl:zs.length<=1000){k:KE R}:∀(j:Nat) (i node:Int) (m:Nat) (o:List Int) (len:Nat) (hi:i=(j:Int)-1) (hj:j<=zs.length) (h0:0<=node) (h1:node<=4294967296) (hm:j<m) (ho:o.length=zs.length) (hlen:len=zs.length),
  aM env (aA env L n) L 0 [] Bz45 (pG 0) (Z2 (U2 (Z2 (Z1 (U16 (U8 (U2 ([])))))))) m (.d (.ivs zs.length (ints zs))::nI node::Y2 (.d .nils::.sl 0 0 0 len::nI i::Y16 (Y8 (Y2 ([]))))) [.arr (ints o) 1 0] k
  =k (.exit 0) (.d (.ivs zs.length (ints zs))::nI (decE (zs.take j).reverse node)::Y2 (.d .nils::.sl 0 0 0 len::nI (-1)::Y16 (Y8 (Y2 ([]))))) [.arr (ints ((decR (zs.take j).reverse node).reverse++o.drop j)) 1 0]:=by
 intro j
 induction j with
 |zero=>
  intro i node m o len hi hj h0 h1 hm ho hlen;obtain _|m:=m;omega;obtain rfl:i= -1:=by omega
  simp -implicitDefEqProofs (maxSteps:=2000000) (disch:=try exact Dz) only[↓DN,↓kRet,UP,simprocAttr,EI,AJ,Tryz.f132];simp[decR,decE]
 |succ j ih=>
  intro i node m o len hi hj h0 h1 hm ho hlen;obtain _|m:=m;omega;obtain rfl:i=(j:Int):=by omega
  subst hlen;have hk:j<zs.length:=by omega
  have hk2:j<o.length:=by omega
  have hc:(j:Int)<zs.length:=by omega
  obtain⟨z1,z2⟩:=hz _ (lN hk);have hz0:¬zs.getD j 0=0:=by omega
  have t0:0<=node.tdiv (zs.getD j 0):=Int.tdiv_nonneg h0 (by omega)
  have t1:node.tdiv (zs.getD j 0)<=node:=by
   rw[Eh h0];exact Int.ediv_le_self _ h0
  have ih':=ih ((j:Int)-1) (node.tdiv (zs.getD j 0)) m (o.set j (node.tmod (zs.getD j 0))) zs.length rfl (by omega) t0 (by omega) (by omega) (by simpa using ho) rfl;rw[aQH hk];simp only[decR,decE,List.reverse_cons,Ao,Av,Am]
  have e:(o.set j (node.tmod (zs.getD j 0))).drop j=node.tmod (zs.getD j 0)::o.drop (j+1):=by
   rw[cI (d:=0) (by simpa using hk2),aF6 hk2,if_pos rfl,List.drop_set_of_lt (by omega)]
  rw[e]at ih';clear ih e;have hj0:(0:Int)<=j:=by omega
  simp -implicitDefEqProofs (maxSteps:=2000000) (disch:=try exact Dz) only[↓DN,↓kRet,UP,simprocAttr,hc,hj0,↓WR,↓ih',EI,AJ,Tryz.f132]
theorem QO(hn:2<=n)(zs:List Int)(node:Int)(hz:∀z∈zs,0<z/\z<=65536)(hl:zs.length<=1000)(h0:0<=node)(h1:node<=4294967296)(hL:2^60<=L):aA env L n 132 [.d (.ivs zs.length (ints zs)),nI node] []=some (.d (.ivs zs.length (ints (decN zs node))),[]):=by
 have loop_c:=fun {R n k} hn=> @aBu R L n hn zs hz hl k zs.length ((zs.length:Int)-1) node L (List.replicate zs.length 0) zs.length rfl (Ab _) h0 h1 (by omega) (by simp) rfl;have e:(List.replicate zs.length (0:Int)).drop zs.length=[]:=by simp
 rw[Cr,e,Ah]at loop_c;have e2:(decR zs.reverse node).reverse=decN zs node:=rfl;have e3:=ZQ zs node;rw[e2]at loop_c;generalize decN zs node=w at *;have e4:(ints w).take zs.length=ints w:=eS (by omega);obtain _|n:=n;omega;simp -implicitDefEqProofs (maxSteps:=2000000) (disch:=try exact Dz) only[↓DN,↓kAsg,↓kRet,UP,simprocAttr,↓K7,↓loop_c,e4,e3,aGb,UY,Tryz.f132]
theorem Q6:type_of% fun {L} zs node hz hl h0 h1 hL=>ks fun hn=> @QO L _ hn zs node hz hl h0 h1 hL:=fun {L} zs node hz hl h0 h1 hL=>ks fun hn=> @QO L _ hn zs node hz hl h0 h1 hL
def OQ:List Int->List Int->Int->Prop
 |z::zs,s::ss,node=>(0<=node*z/\node*z<=4294967296)/\(0<=node*z+s/\node*z+s<=4294967296)/\OQ zs ss (node*z+s)
 | [],[],_=>True
 |_,_,_=>False
theorem aCj(hn:1<=n){zs ss:List Int}(hl:zs.length<=1000)(hls:ss.length=zs.length){k:KE R}:∀(j i:Nat) (node:Int) (m:Nat) (hi:i+j=zs.length) (hok:OQ (zs.drop i) (ss.drop i) node) (hm:j<m),
  aM env (aA env L n) L 0 [] Bz54 (pH 0) (Z2 (U2 (Z2 (Z1 (U16 (U2 ([]))))))) m (.d (.ivs zs.length (ints zs))::.d (.ivs ss.length (ints ss))::Y2 (nI 0::nI node::nI i::Y16 (Y2 ([])))) [] k
  =k (.exit 0) (.d (.ivs zs.length (ints zs))::.d (.ivs ss.length (ints ss))::Y2 (nI 0::nI (encN (zs.drop i) (ss.drop i) node)::nI (zs.length)::Y16 (Y2 ([])))) []:=by
 intro j
 induction j with
 |zero=>
  intro i node m hi hok hm;obtain _|m:=m;omega;obtain rfl:i=zs.length:=by omega
  simp -implicitDefEqProofs (maxSteps:=2000000) (disch:=try exact Dz) only[↓DN,↓kRet,UP,simprocAttr,Aj,EW,AD,Tryz.f134];simp[encN]
 |succ j ih=>
  intro i node m hi hok hm;obtain _|m:=m;omega;have hk:i<zs.length:=by omega
  have hk2:i<ss.length:=by omega
  have hc:(i:Int)<zs.length:=by omega
  have hc2:(i:Int)<ss.length:=by omega
  rw[cI hk (d:=0),cI hk2 (d:=0)]at hok|-;obtain⟨b1,b2,b3⟩:=hok;have ih':=ih (i+1) _ m (by omega) b3 (by omega);rw[cs1 i]at ih';simp only[encN];clear ih b3;simp -implicitDefEqProofs (maxSteps:=2000000) (disch:=try exact Dz) only[↓DN,↓kRet,UP,simprocAttr,hc,hc2,↓ih',EW,AD,Tryz.f134]
theorem aGG(hn:2<=n)(zs ss:List Int)(hl:zs.length<=1000)(hls:ss.length=zs.length)(hok:OQ zs ss 0)(hL:2^60<=L):aA env L n 134 [.d (.ivs zs.length (ints zs)),.d (.ivs ss.length (ints ss))] []=some (nI (encN zs ss 0),[]):=by
 have loop_c:=fun {R n k} hn=> @aCj R L n hn zs ss hl hls k zs.length 0 0 L (by omega) hok (by omega);simp only[Bc,Aq]at loop_c;obtain _|n:=n;omega;simp -implicitDefEqProofs (maxSteps:=2000000) (disch:=try exact Dz) only[↓DN,↓kAsg,UP,simprocAttr,↓loop_c,aGJ,TL,Tryz.f134]
theorem aGj{hq:H}{k:KA R}(hn:2<=n)(zs ss:List Int)(hl:zs.length<=1000)(hls:ss.length=zs.length)(hok:OQ zs ss 0)(hL:2^60<=L):a6 env (aA env L n) hq 134 [.d (.ivs zs.length (ints zs)),.d (.ivs ss.length (ints ss))] k=k (nI (encN zs ss 0)) hq:=
 c8 rfl (aGG hn zs ss hl hls hok hL) rfl (.inl rfl)
theorem Z0(hn:1<=n){N:Net}(h1:N.ps.length<=1000)(h2:N.us.length<=1000){k:KE R}:∀(j i m:Nat) (o:List Int) (len:Nat) (hi:i+j=N.ps.length) (hm:j<m) (hlen:len=o.length) (ho:o.length+j<=4000),
  aM env (aA env L n) L 0 [] Bz34 (iH 0) (U1 (Z4 (U32 (U4 ([]))))) m (Y1 (.ptr 0 0 0::.d .nils::.sl 1 0 0 len::nI i::Y32 (Y4 ([])))) [.box ((netC N).map A.d),.arr (ints o) 1 0] k
  =k (.exit 0) (Y1 (.ptr 0 0 0::.d .nils::.sl 1 0 0 (o++(N.ps.drop i).map (·.st)).length::nI (N.ps.length)::Y32 (Y4 ([])))) [.box ((netC N).map A.d),.arr (ints (o++(N.ps.drop i).map (·.st))) 1 0]:=by
 intro j
 induction j with
 |zero=>
  intro i m o len hi hm hlen ho;obtain _|m:=m;omega;obtain rfl:i=N.ps.length:=by omega
  subst hlen;simp -implicitDefEqProofs (maxSteps:=2000000) (disch:=try exact Dz) only[↓DN,↓kRet,UP,simprocAttr,netC,Aj,GI,EA,Tryz.f129];simp
 |succ j ih=>
  intro i m o len hi hm hlen ho;obtain _|m:=m;omega;subst hlen;have hk:i<N.ps.length:=by omega
  have hc:(i:Int)<N.ps.length:=by omega
  have g:=aUC hk;have ih':=ih (i+1) m (o++[(N.ps.getD i default).st]) (o.length+1) (by omega) (by omega) (by simp) (by rw[Af,Co];omega);rw[cs1 i]at ih';rw[cI hk (d:=default),Ai];simp only[Ao,Av,Am]at ih';clear ih;generalize(N.ps.getD i default).st=s at *;simp only[netC,Ai,Ap]at ih'|-;simp -implicitDefEqProofs (maxSteps:=2000000) (disch:=try exact Dz) only[↓DN,↓kRet,UP,simprocAttr,NE,Ay,Cg,Cj,hc,g,↓ih',GI,EA,Tryz.f129]
theorem ZY(hn:1<=n){N:Net}(h1:N.ps.length<=1000)(h2:N.us.length<=1000)(h3:∀a∈N.us,a.nx.length<=1000){k:KE R}:∀(j i m:Nat) (o:List Int) (len i4:Nat) (hi:i+j=N.us.length) (hm:j<m) (hlen:len=o.length) (ho:o.length+j<=4000),
  aM env (aA env L n) L 0 [] Bz34 (iH 1) (U1 (Z4 (Z1 (U32 (U2 (U1 ([]))))))) m (Y1 (.ptr 0 0 0::.d .nils::.sl 1 0 0 len::nI i4::nI i::Y32 (Y2 (Y1 ([]))))) [.box ((netC N).map A.d),.arr (ints o) 1 0] k
  =k (.exit 2) (Y1 (.ptr 0 0 0::.d .nils::.sl 1 0 0 (o++(N.us.drop i).map fun a=>(a.nx.length:Int)).length::nI i4::nI (N.us.length)::Y32 (Y2 (Y1 ([]))))) [.box ((netC N).map A.d),.arr (ints (o++(N.us.drop i).map fun a=>(a.nx.length:Int))) 1 0]:=by
 intro j
 induction j with
 |zero=>
  intro i m o len i4 hi hm hlen ho;obtain _|m:=m;omega;obtain rfl:i=N.us.length:=by omega
  subst hlen;simp -implicitDefEqProofs (maxSteps:=2000000) (disch:=try exact Dz) only[↓DN,↓kRet,UP,simprocAttr,netC,Aj,HU,D7,Tryz.f129];simp
 |succ j ih=>
  intro i m o len i4 hi hm hlen ho;obtain _|m:=m;omega;subst hlen;have hk:i<N.us.length:=by omega
  have hc:(i:Int)<N.us.length:=by omega
  have hmem:N.us.getD i default∈N.us:=by rw[Aa,Ae hk];exact Az hk
  have ha:=h3 _ hmem;have g:=aUU hk;have ih':=ih (i+1) m (o++[((N.us.getD i default).nx.length:Int)]) (o.length+1) i4 (by omega) (by omega) (by simp) (by rw[Af,Co];omega);rw[cs1 i]at ih';rw[cI hk (d:=default),Ai];simp only[Ao,Av,Am]at ih';clear ih hmem;generalize N.us.getD i default=s at *;simp only[netC,Ai,Ap]at ih'|-;simp -implicitDefEqProofs (maxSteps:=2000000) (disch:=try exact Dz) only[↓DN,↓kRet,UP,simprocAttr,NE,Ay,Cg,Cj,hc,g,↓ih',HU,D7,Tryz.f129]
theorem U5(hn:2<=n)(N:Net)(h1:N.ps.length<=1000)(h2:N.us.length<=1000)(h3:∀a∈N.us,a.nx.length<=1000)(hL:2^60<=L):aA env L n 129 [.agg ((netC N).map A.d)] []=some (.d (.ivs (MY N).length (ints (MY N))),[]):=by
 have loop_a:=fun {R n k} hn=> @Z0 R L n hn N h1 h2 k N.ps.length 0 L [] 0 (by omega) (by omega) rfl (by simp;omega);have loop_b:=fun {R n k} hn=> @ZY R L n hn N h1 h2 h3 k N.us.length 0 L (N.ps.map (·.st)) (N.ps.map (·.st)).length N.ps.length (by omega) (by omega) rfl (by simp;omega);simp only[Bc,Aq,Am,oK]at loop_a loop_b;have e:N.ps.map (·.st)++N.us.map (fun a=>(a.nx.length:Int))=MY N:=rfl;rw[e]at loop_b;generalize MY N=w at *;generalize N.ps.map (·.st)=v at *;have e4:(ints w).take w.length=ints w:=eS (Ab _);simp only[netC,Ai,Ap]at loop_a loop_b|-;obtain _|n:=n;omega;simp -implicitDefEqProofs (maxSteps:=2000000) (disch:=try exact Dz) only[↓DN,↓kAsg,↓kRet,UP,simprocAttr,↓loop_a,↓loop_b,e4,aHR,YY,Tryz.f129]
end Ev
end Go.Proofs.YthlkcebdfbjdoaaGreat
