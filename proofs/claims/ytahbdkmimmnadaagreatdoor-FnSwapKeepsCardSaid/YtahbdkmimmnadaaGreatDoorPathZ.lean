/-
  A search for a goal, walked.
-/
import Derived.Test.YtahbdkmimmnadaaGreatDoorPathV
import Derived.Test.YtahbdkmimmnadaaGreatDoorRead
import Derived.Test.YtahbdkmimmnadaaGreatDoorLeast
set_option linter.unusedSimpArgs false
set_option linter.unusedVariables false
set_option linter.unusedSectionVars false
set_option maxRecDepth 8000
set_option maxHeartbeats 4000000
namespace Go.Proofs.YtahbdkmimmnadaaGreatDoor
namespace Ev
theorem aPB{st:List PStep}{p l:Int}{f:List Int}{i:Nat}(h:i<st.length):(addP st p l f).getD i default=st.getD i default:=by
 unfold addP
 split
 ·rfl
 ·exact iB h
theorem aPb{nx:Int->Int->List Int}{l:Int}:flat nx [] l=[]:=rfl
theorem aFg{nx:Int->Int->List Int}{n l:Int}{ns:List Int}:flat nx (n::ns) l=nx n l++flat nx ns l:=rfl
theorem aHh{nx:Int->Int->List Int}{c:Int}(hw:∀x c,(nx x c).length<=4096):∀ns:List Int,(flat nx ns c).length<=4096*ns.length
 | []=>by simp[flat]
 |x::ns=>by simp only[aFg,Ai,Ac];have:=hw x c;have:=aHh (c:=c) hw ns;omega
def ltI(nx:Int->Int->List Int)(gl:Int->Bool)(ns:List Int)(p:Int):List Int->List Bool×List PStep->Nat
 | [],_=>0
 |l::ls,q=>if(visG gl (flat nx ns l) q.1 [] false).2.2=true then 0 else ltI nx gl ns p ls ((visG gl (flat nx ns l) q.1 [] false).1,addP q.2 p l (visG gl (flat nx ns l) q.1 [] false).2.1)+1
def outI(nx:Int->Int->List Int)(gl:Int->Bool)(ls:List Int):Nat->Nat->List Bool×List PStep->Nat
 |0,i,_=>i
 |j+1,i,q=>if i<q.2.length then
   (if(ltG nx gl (q.2.getD i default).ns i ls q).1=true then i
    else outI nx gl ls j (i+1) (ltG nx gl (q.2.getD i default).ns i ls q).2)
  else i
def txt(w:List Int):List UInt8:=w.map gC
def XU(st:List PStep):List UInt8:=txt (gQ st st.length (st.length-1))
theorem aBE{R:Type}{E:Env}{call:aX}{h:H}{f:FuncId}{args:List A}{len:Nat}{k:KA R}{id e g e2 g2:Nat}{cs cs2:List D}(hi:h[id]? =some (.arr cs e g))(hid:idsL args=[id])(hm:(E.hint f).mode=0)(he:call f (aE (aH [id]) args) [.arr cs e g]=some (.sl 0 g2 0 len,[.arr cs2 e2 g2])):
  aW E call h f args k=k (.sl id g2 0 len) (h.set id (.arr cs2 e2 g2)):=by
 have hre:aD aF h [id] []=[id]:=by
  have e1:aD aF h [id] []=match h[id]? with
   |some (.box cs)=>aD (aF-1) h ([]++idsL cs) ([]++[id])
   |some (.vec cs _ _)=>aD (aF-1) h ([]++idsL cs) ([]++[id])
   |some .void=>aD (aF-1) h [] []
   |some _=>aD (aF-1) h [] ([]++[id])
   |none=>aD (aF-1) h [] []:=rfl
  rw[e1,hi];rfl
 have hpk:pack h [id]=[.arr cs e g]:=by
  simp only[pack,Af,Al,Aa,hi];rfl
 unfold aW;rw[hid,hre,hpk]
 have hc:bV call E.hint [.arr cs e g] f (aE (aH [id]) args)=some (.sl 0 g2 0 len,[.arr cs2 e2 g2]):=by
  unfold bV;rw[hm];exact he
 rw[hc]
 have hcl:closed h [id] [id]=true:=by
  simp only[closed,Bp,Cc,hi];simp
 have hb:back [id] h.length 1 0=some id:=rfl;simp only[Ac,Ab,Ad,hcl,and_self,if_true,mapA,Ag,hb];simp only[bE,mapO,Al,Ah]
theorem aLv{R:Type}{L n dn:Nat}(hn:dn+4<=n)(hL:2^60<=L){I:Int->Prop}{nf:FuncId}{caps:List D}{gb:D}{size:Nat}{nx:Int->Int->List Int}{gn:Int->Int->Nat}{ls ns:List Int}{sc:List D}{seen:List Bool}{sn ii q:Nat}{c:Int}
  (kc_n:∀ {R:Type} {n id:Nat} {hq:H} {k:KA R} (x c:Int) (o:List Int),dn+4<=n->I x->0<=c->c<6->o.length<=4200000000->hq[id]? =some (.arr (ints o) 1 0)->aW env (aA env L n) hq nf (nI x::nI c::.sl id 0 0 o.length::caps.map A.d) k=k (.sl id (gn x c) 0 (o++nx x c).length) (hq.set id (.arr (ints (o++nx x c)) 1 (gn x c))))
  (hI:∀x∈ns,I x) (hw:∀x c,(nx x c).length<=4096) (hc0:0<=c) (hc6:c<6) (hnl:ns.length<=1000000) {k:KE R}:∀(j i m:Nat) (o:List Int) (len:Nat) (hi:i+j=ns.length) (hm:j<m) (ho:o.length<=4096*i) (hlen:len=o.length),
  aS env (aA env L n) L 0 (W16 (W2 [2])) Bz3 (jB 2) (U2 (Z2 (U4 (U2 (Z2 (U1 (Z2 (Z1 (U1 (Z2 (U8 (U4 (U2 (Z2 (Z1 (U4 (U2 (U1 (Z2 (Z1 (U16 (U1 ([]))))))))))))))))))))))) m (Y2 (.d (.ivs ls.length (ints ls))::.d (.fn nf caps)::Y4 (Y2 (.d (.str [])::.d (.bool false)::Y1 (.ptr 0 0 0::.clo 210 [.ptr 1 0 0,.ptr 2 0 0,.ptr 0 0 0]::nI ii::Y1 (nI c::.sl 3 0 0 len::Y8 (Y4 (Y2 (.d (.ivs ls.length (ints ls))::nI (ls.length)::nI q::Y4 (Y2 (Y1 (.d (.ivs ns.length (ints ns))::nI (ns.length)::nI i::Y16 (Y1 ([])))))))))))))) [.box [.sl 4 0 0 sn],.box [.sl 5 0 0 size],.box [.d gb],.arr (ints o) 1 0,.arr sc 3 0,.arr (dF seen) 1 0] k
  =k (.exit 4) (Y2 (.d (.ivs ls.length (ints ls))::.d (.fn nf caps)::Y4 (Y2 (.d (.str [])::.d (.bool false)::Y1 (.ptr 0 0 0::.clo 210 [.ptr 1 0 0,.ptr 2 0 0,.ptr 0 0 0]::nI ii::Y1 (nI c::.sl 3 0 0 (o++flat nx (ns.drop i) c).length::Y8 (Y4 (Y2 (.d (.ivs ls.length (ints ls))::nI (ls.length)::nI q::Y4 (Y2 (Y1 (.d (.ivs ns.length (ints ns))::nI (ns.length)::nI (ns.length)::Y16 (Y1 ([])))))))))))))) [.box [.sl 4 0 0 sn],.box [.sl 5 0 0 size],.box [.d gb],.arr (ints (o++flat nx (ns.drop i) c)) 1 0,.arr sc 3 0,.arr (dF seen) 1 0]:=by
 intro j
 induction j with
 |zero=>
  intro i m o len hi hm ho hlen;obtain _|m:=m;omega;obtain rfl:i=ns.length:=om;subst hlen
  simp-implicitDefEqProofs (maxSteps:=9^7) (disch:=try exact Dz) only[↓DN,↓kRet,UP,simprocAttr,Ak,C1,yR,Tryz.f152];simp only[Bl,aPb,Ah,Ab,Bm]
 |succ j ih=>
  intro i m o len hi hm ho hlen;obtain _|m:=m;omega;subst hlen;have hc:(i:Int)<ns.length:=om;have hk:i<ns.length:=om;have hmem:ns.getD i 0∈ns:=by rw[Aa,Ae hk];exact Ba hk
  have hIx:=hI _ hmem;have hww:=hw (ns.getD i 0) c;have hob:o.length<=4200000000:=om;have e4:((i+1:Nat):Int)=(i:Int)+1:=om;have ih':=ih (i+1) m (o++nx (ns.getD i 0) c) (o.length+(nx (ns.getD i 0) c).length) om om (by rw[Ai];omega) (by rw[Ai]);rw[e4]at ih';rw[bP hk (d:=0)];simp only[aFg,<-Ao];have kc_m:=fun {R:Type} {n id:Nat} {hq:H} {k:KA R} (h4:dn+4<=n) (hg:hq[id]? =some (.arr (ints o) 1 0))=> @kc_n R n id hq k (ns.getD i 0) c o h4 hIx hc0 hc6 hob hg;clear ih hmem kc_n;generalize nx (ns.getD i 0) c=w at *
  simp-implicitDefEqProofs (maxSteps:=9^7) (disch:=try exact Dz) only[↓DN,↓kRet,UP,simprocAttr,hc,↓kc_m,↓ih',C1,yR,Tryz.f152]
theorem TC:∀(ns:List Int) (s:List Bool) (f:List Int),f.length<=(visF ns s f).2.length
 | [],s,f=>Ad _
 |n::ns,s,f=>by
  unfold visF
  split
  ·exact TC ns s f
  ·have:=TC ns (s.set n.toNat true) (f++[n]);simp only[Ai,Ac,Ab]at this;omega
theorem aHP{ns:List Int}{size:Nat}(h:ns≠[]):0<(visF ns (List.replicate size false) []).2.length:=by
 cases ns with
 |nil=>exact absurd rfl h
 |cons n ns=>
  have e:(List.replicate size false).getD n.toNat false=false:=by
   rw[Aa,List.getElem?_replicate]
   split<;>rfl
  unfold visF;rw[e];have:=TC ns ((List.replicate size false).set n.toNat true) ([]++[n]);simp only[Ai,Ac,Ab]at this;simp only[Ap,if_false];omega
theorem aQZ{R:Type}{L n:Nat}{k:KA R}(hn:4<=n)(hL:2^60<=L){I:Int->Prop}{gl:Int->Bool}{gf:FuncId}{caps:List D}{size:Nat}{p l:Int}{ns:List Int}(kc_g:∀ {R:Type} {n:Nat} {hq:H} {k:KA R} (x:Int),2<=n->I x->aW env (aA env L n) hq gf (nI x::caps.map A.d) k=k (.d (.bool (gl x))) hq)(hI:∀x∈ns,I x)(hr:∀x,I x->0<=x/\x<size)(hsz:size<=4294967290)(hnl:ns.length<=4294967290)(hne:ns≠[]):
  I9 env (aA env L n) [.box [.d (.fn gf caps)],.arr (dF (List.replicate size false)) 1 0,.arr [] 0 0,.box [.sl 1 0 0 size],.arr [] 0 0,.box [.sl 4 0 0 0]] 210 [.ptr 3 0 0,.ptr 0 0 0,.ptr 5 0 0] [nI p,nI l,.d (.ivs ns.length (ints ns))] k
  =k (.d (.bool (visG gl ns (List.replicate size false) [] false).2.2)) [.box [.d (.fn gf caps)],.arr (dF (visG gl ns (List.replicate size false) [] false).1) 1 0,.arr [] 0 0,.box [.sl 1 0 0 size],.arr (b9 [⟨p,l,(visG gl ns (List.replicate size false) [] false).2.1⟩]) 3 1,.box [.sl 4 1 0 1]]:=by
 have he:=aRj (gl:=gl) (p:=p) (l:=l) hn hL (fun {R n hq k}=>kc_g) hI hr hsz hnl (List.replicate size false) sm _ rfl (by have:=aHP (size:=size) hne;rw[(y5 gl ns _ [] false).2];omega);unfold I9;generalize List.replicate size false=sz at *;generalize hh:[O.box [.d (.fn gf caps)],.arr (dF sz) 1 0,.arr [] 0 0,.box [.sl 1 0 0 size],.arr [] 0 0,.box [.sl 4 0 0 0]]=h;have hre:aD aF h (idsL [A.ptr 3 0 0,.ptr 0 0 0,.ptr 5 0 0]++idsL [A.d (.int .i64 p),nI l,.d (.ivs ns.length (ints ns))]) []=[3,0,5,1,4]:=by subst hh;rfl
 have hpk:pack h [3,0,5,1,4]=[.box [.sl 3 0 0 size],.box [.d (.fn gf caps)],.box [.sl 4 0 0 0],.arr (dF sz) 1 0,.arr [] 0 0]:=by subst hh;rfl
 have hma:aE (aH [3,0,5,1,4]) [A.d (.int .i64 p),nI l,.d (.ivs ns.length (ints ns))]++aE (aH [3,0,5,1,4]) [A.ptr 3 0 0,.ptr 0 0 0,.ptr 5 0 0]=[nI p,nI l,.d (.ivs ns.length (ints ns)),.ptr 0 0 0,.ptr 1 0 0,.ptr 2 0 0]:=rfl
 have hca:∀h f args,bV (aA env L n) env.hint h f args=if(env.hint f).mode=0 then aA env L n f args h else bV (aA env L n) env.hint h f args:=by
  intro h f args
  split
  ·rename_i hm
   unfold bV;rw[hm];rfl
  ·rfl
 rw[hre,hpk,hma,hca,if_pos lJ,he];have hcl:closed h [3,0,5,1,4] (idsL [A.ptr 3 0 0,.ptr 0 0 0,.ptr 5 0 0]++idsL [A.d (.int .i64 p),nI l,.d (.ivs ns.length (ints ns))])=true:=by subst hh;rfl
 subst hh;simp only[hcl,Ac,Ab,Ad,and_self,if_true]<;>rfl
def gV(r:List Bool×List Int×Bool):Nat:=if r.2.1=[]then 0 else 1
theorem aRJ{R:Type}{L n:Nat}{k:KA R}(hn:4<=n)(hL:2^60<=L){I:Int->Prop}{gl:Int->Bool}{gf:FuncId}{caps:List D}{size:Nat}{p l:Int}{ns:List Int}(kc_g:∀ {R:Type} {n:Nat} {hq:H} {k:KA R} (x:Int),2<=n->I x->aW env (aA env L n) hq gf (nI x::caps.map A.d) k=k (.d (.bool (gl x))) hq)(hI:∀x∈ns,I x)(hr:∀x,I x->0<=x/\x<size)(hsz:size<=4294967290)(hnl:ns.length<=4294967290)(seen:List Bool)(hs:seen.length=size)(st:List PStep)(hst:st.length<=4294967290):
  I9 env (aA env L n) [.box [.sl 4 0 0 st.length],.box [.sl 5 0 0 size],.box [.d (.fn gf caps)],.arr (ints ns) 1 0,.arr (b9 st) 3 0,.arr (dF seen) 1 0] 210 [.ptr 1 0 0,.ptr 2 0 0,.ptr 0 0 0] [nI p,nI l,.sl 3 0 0 ns.length] k
  =k (.d (.bool (visG gl ns seen [] false).2.2)) [.box [.sl 4 (gV (visG gl ns seen [] false)) 0 (addP st p l (visG gl ns seen [] false).2.1).length],.box [.sl 5 0 0 size],.box [.d (.fn gf caps)],.arr (ints ns) 1 0,.arr (b9 (addP st p l (visG gl ns seen [] false).2.1)) 3 (gV (visG gl ns seen [] false)),.arr (dF (visG gl ns seen [] false).1) 1 0]:=by
 have he:=aR3 (gl:=gl) (p:=p) (l:=l) hn hL (fun {R n hq k}=>kc_g) hI hr hsz hnl seen hs st hst _ rfl;unfold I9;generalize hh:[O.box [.sl 4 0 0 st.length],.box [.sl 5 0 0 size],.box [.d (.fn gf caps)],.arr (ints ns) 1 0,.arr (b9 st) 3 0,.arr (dF seen) 1 0]=h;have hre:aD aF h (idsL [A.ptr 1 0 0,.ptr 2 0 0,.ptr 0 0 0]++idsL [A.d (.int .i64 p),nI l,.sl 3 0 0 ns.length]) []=[1,2,0,3,5,4]:=by subst hh;rfl
 have hpk:pack h [1,2,0,3,5,4]=[.box [.sl 4 0 0 size],.box [.d (.fn gf caps)],.box [.sl 5 0 0 st.length],.arr (ints ns) 1 0,.arr (dF seen) 1 0,.arr (b9 st) 3 0]:=by subst hh;rfl
 have hma:aE (aH [1,2,0,3,5,4]) [A.d (.int .i64 p),nI l,.sl 3 0 0 ns.length]++aE (aH [1,2,0,3,5,4]) [A.ptr 1 0 0,.ptr 2 0 0,.ptr 0 0 0]=[nI p,nI l,.sl 3 0 0 ns.length,.ptr 0 0 0,.ptr 1 0 0,.ptr 2 0 0]:=rfl
 have hca:∀h f args,bV (aA env L n) env.hint h f args=if(env.hint f).mode=0 then aA env L n f args h else bV (aA env L n) env.hint h f args:=by
  intro h f args
  split
  ·rename_i hm
   unfold bV;rw[hm];rfl
  ·rfl
 rw[hre,hpk,hma,hca,if_pos lJ,he];have hcl:closed h [1,2,0,3,5,4] (idsL [A.ptr 1 0 0,.ptr 2 0 0,.ptr 0 0 0]++idsL [A.d (.int .i64 p),nI l,.sl 3 0 0 ns.length])=true:=by subst hh;rfl
 subst hh;simp only[hcl,Ac,Ab,Ad,and_self,if_true]<;>rfl
structure OkN(N:Net)(states:List Int)(i:Nat):Prop where
 hi:i<N.us.length
 hs:N.ps.length+i<states.length
 ha:(N.us.getD i default).ac.length<=4294967290
 q0:0<=states.getD (N.ps.length+i) 0
 q1:states.getD (N.ps.length+i) 0<(N.us.getD i default).ac.length
theorem aJl{L n:Nat}(hn:2<=n)(N:Net)(states:List Int)(mvs:List (List Int))(hk:N.kind=0\/N.kind=1\/N.kind=2\/N.kind=3)(h1:N.ps.length<=1000)(h2:N.us.length<=1000)(hs2:states.length<=4000)(ho:OkN N states 0)(ho2:N.kind=1\/N.kind=2->OkN N states 1)(hL:2^60<=L):aA env L n 156 [.agg [.d (.ivs N.ps.length (sysD N.ps)),.d (.ivs N.us.length (jW N.us)),.d (.ivs N.start.length (ints N.start)),nI N.ls,nI N.kind,nI N.goal],.d (.ivs states.length (ints states)),.d (.ivs mvs.length (aP mvs))] []=some (.d (.bool (aHc N states mvs)),[]):=by
 have kc_a:=fun {R n hq k} hn=> @aFy R L n hq k hn N states 0 ho.hi h1 h2 ho.hs hs2 ho.ha ho.q0 ho.q1 hL;simp only[Aw]at kc_a;have kc_b:=fun(hx:OkN N states 1) {R:Type} {n:Nat} {hq:H} {k:KA R} (hn:1<=n)=> @aFy R L n hq k hn N states 1 hx.hi h1 h2 hx.hs hs2 hx.ha hx.q0 hx.q1 hL;simp only[show((1:Nat):Int)=1 from rfl]at kc_b;unfold aHc
 rcases hk with hk|hk|hk|hk
 ·rw[hk]at kc_a|-;clear kc_b ho2;generalize okN N states 0=b0 at *;obtain _|n:=n;omega
  simp-implicitDefEqProofs (maxSteps:=9^7) (disch:=try exact Dz) only[↓DN,↓kAsg,↓kRet,UP,simprocAttr,↓kc_a,rR,pN,Tryz.f156]
 ·have kc_b:=fun {R:Type} {n:Nat} {hq:H} {k:KA R} (hn:1<=n)=>kc_b (ho2 (.inl hk)) (R:=R) (n:=n) (hq:=hq) (k:=k) hn;rw[hk]at kc_a kc_b|-;generalize okN N states 0=b0 at *;generalize okN N states 1=b1 at *;obtain _|n:=n;omega
  simp-implicitDefEqProofs (maxSteps:=9^7) (disch:=try exact Dz) only[↓DN,↓kAsg,↓kRet,UP,simprocAttr,↓kc_a,↓kc_b,rR,pN,Tryz.f156]
  all_goals (cases b0<;>cases b1<;>rfl)
 ·have kc_b:=fun {R:Type} {n:Nat} {hq:H} {k:KA R} (hn:1<=n)=>kc_b (ho2 (.inr hk)) (R:=R) (n:=n) (hq:=hq) (k:=k) hn;rw[hk]at kc_a kc_b|-;generalize okN N states 0=b0 at *;generalize okN N states 1=b1 at *
  cases b0 with
  |true=>
   obtain _|n:=n;omega
   simp-implicitDefEqProofs (maxSteps:=9^7) (disch:=try exact Dz) only[↓DN,↓kAsg,↓kRet,UP,simprocAttr,↓kc_a,↓kc_b,rR,pN,Tryz.f156]
  |false=>
   obtain _|n:=n;omega
   simp-implicitDefEqProofs (maxSteps:=9^7) (disch:=try exact Dz) only[↓DN,↓kAsg,↓kRet,UP,simprocAttr,↓kc_a,rR,pN,Tryz.f156]
 ·rw[hk]at kc_a|-;clear kc_b ho2;generalize okN N states 0=b0 at *;obtain _|n:=n;omega
  simp-implicitDefEqProofs (maxSteps:=9^7) (disch:=try exact Dz) only[↓DN,↓kAsg,↓kRet,UP,simprocAttr,↓kc_a,rR,pN,Tryz.f156]
theorem yT{R:Type}{E:Env}{call:aX}{h blk blk2 h2:H}{f:FuncId}{args fs:List A}{r:A}{k:KA R}{ids ord:List Nat}(hm:(E.hint f).mode=2)(hids:idsL args=ids)(hre:aD aF h ids []=ord)(hpk:pack h ord=blk)(hf:eS blk (aE (aH ord) args)=some (fs,blk2))(hcl:closed h ord ids=true)(hc:call f fs []=some (r,[]))(hr:idsA r=[])(hl:ord.length<=blk2.length)(hpb:bE (back ord h.length blk2.length) h ord blk2=h2):
  aW E call h f args k=k r h2:=by
 unfold aW;rw[hids,hre,hpk]
 have hc:bV call E.hint blk f (aE (aH ord) args)=some (r,blk2):=by
  unfold bV;rw[hm];simp only[hf,hc]
 rw[hc];simp only[hl,hcl,and_self,if_true,nV r hr,hpb]
def dR(gl:Int->Bool)(v:Nat):Int:=if gl v=true then 0 else -1
def gEnd(tab:List (List (List Int)))(dist ls:List Int):Nat->List Int->List Int
 |0,at_=>at_
 |d+1,at_=>gEnd tab dist ls d (P5 tab dist at_ d (ls.length+1) 0).2
theorem aC7{tab:List (List (List Int))}{dist ls at_:List Int}{d:Int}(h:∃e,e<ls.length/\bF tab dist e d at_ []≠[]):∃e,e<ls.length/\P5 tab dist at_ d (ls.length+1) 0=(e,bF tab dist e d at_ [])/\bF tab dist e d at_ []≠[]/\∀f,f<e->bF tab dist f d at_ []=[]:=by
 obtain⟨e0,h1,h2⟩:=h;obtain⟨e,_,_,g1,g2,g3⟩:=aDx (tab:=tab) (dist:=dist) (at_:=at_) (d:=d) (ls.length+1) 0 ⟨e0,by omega,by omega,h2⟩;refine⟨e,?_,g1,g2,fun f hf=>g3 f om hf⟩
 by_cases hlt:e0<e
 ·exact(h2 (g3 e0 om hlt)).elim
 ·omega
section
theorem CY:∀ {N:Nat} {l:List Int},l.Nodup->(∀x∈l,0<=x/\x<N)->l.length<=N
 |0,l,_,hr=>by
  cases l with
  |nil=>exact Ad _
  |cons x l=>have:=hr x Bg;omega
 |N+1,l,hn,hr=>by
  by_cases h:(N:Int)∈l
  ·have h1:=CY (N:=N) (l:=l.erase (N:Int)) (hn.erase (N:Int)) (fun x hx=>by
    rw[hn.mem_erase_iff]at hx;have:=hr x hx.2;omega)
   rw[List.length_erase_of_mem h]at h1;omega
  ·have h1:=CY (N:=N) hn (fun x hx=>by
    have:=hr x hx;have:x≠N:=fun e=>h (e▸hx);omega)
   omega
theorem O9{dist:List Int}{d:Int}:∀(ms out:List Int),out.Nodup->(addC dist d ms out).Nodup
 | [],out,h=>h
 |m::ms,out,h=>by
  unfold addC
  split
  ·rename_i hc
   refine O9 ms _ ?_;rw[List.nodup_append];exact⟨h,by simp,fun a ha b hb=>by simp at hb;subst hb;exact fun e=>hc.2 (e▸ha)⟩
  ·exact O9 ms out h
theorem UW{tab:List (List (List Int))}{dist:List Int}{k:Nat}{d:Int}:∀(vs out:List Int),out.Nodup->(bF tab dist k d vs out).Nodup
 | [],out,h=>h
 |v::vs,out,h=>UW vs _ (O9 _ _ h)
section
variable{nx:Int->Int->List Int}{gl:Int->Bool}{ls:List Int}{aL:Nat}{tab:List (List (List Int))}
theorem aSR:aB0 nx ls gl aL ((List.range aL).map (dR gl)) 0:=by
 refine⟨by simp,fun i hi=> ?_⟩
 have e:((List.range aL).map (dR gl)).getD i 0=dR gl i:=by
  rw[Aa,Bb,List.getElem?_range hi];rfl
 rw[e]
 by_cases hg:gl i=true
 ·refine .inl ⟨0,Ad _,by unfold dR;rw[if_pos hg];rfl,TN.2 hg,fun e he=>by omega⟩
 ·refine .inr ⟨by unfold dR;rw[if_neg hg],fun e he ha=> ?_⟩;obtain rfl:e=0:=om;exact hg (TN.1 ha)
theorem aQB(ht:Tab nx ls aL tab):Full nx ls gl aL (dJ tab (aL+1) 1 ((List.range aL).map (dR gl))):=by
 have:=aNn ht (aL+1) 0 ((List.range aL).map (dR gl)) aSR (by
  have:=List.countP_le_length (p:=fun(x:Int)=>decide (x<0)) (l:=(List.range aL).map (dR gl));simp at this|-;omega)
 simpa using this
theorem P4{d B:Int}(hd:d<=B):∀(j i:Nat) (q:List Int×Bool),(∀x∈q.1,x<=B)->∀x∈(dQ tab d j i q).1,x<=B
 |0,_,q,h=>h
 |j+1,i,q,h=>by
  simp only[dQ]
  split
  ·refine P4 hd j _ _ fun x hx=> ?_
   rcases Dx hx with hx|rfl
   ·exact h x hx
   ·exact hd
  ·exact P4 hd j _ q h
theorem aBN{B:Int}:∀(j:Nat) (d:Int) (dist:List Int),d+j<=B+1->(∀x∈dist,x<=B)->∀x∈dJ tab j d dist,x<=B
 |0,d,dist,_,h=>h
 |j+1,d,dist,hd,h=>by
  have hr:=P4 (tab:=tab) (d:=d) (B:=B) om dist.length 0 (dist,false) h;simp only[dJ]
  split
  ·exact aBN j (d+1) _ om hr
  ·exact hr
def Qs(nx:Int->Int->List Int)(ls:List Int)(gl:Int->Bool)(aL d:Nat)(at_:List Int):Prop:=(∀v∈at_,(0<=v/\v<aL)/\Far nx ls gl v d)/\at_≠[]/\at_.length<=aL
theorem aRq(ht:Tab nx ls aL tab){dist:List Int}(hf:Full nx ls gl aL dist)(htt:aL<=65536):∀d at_,Qs nx ls gl aL (d+1) at_->at_.length<=65536/\(∀x∈at_,0<=x/\x<aL)/\(∃e,e<ls.length/\bF tab dist e d at_ []≠[])/\∀e,e<ls.length->bF tab dist e d at_ []≠[]->Qs nx ls gl aL d (bF tab dist e d at_ []):=by
 intro d at_ ⟨h1,h2,h3⟩
 have hmem:∀k x,k<ls.length->(x∈bF tab dist k d at_ []↔∃v∈at_,x∈nx v (ls.getD k 0)/\(0<=x/\x<aL)/\Far nx ls gl x d):=by
  intro k x hk;rw[QG];simp only[Bv,false_or];have hl:ls.getD k 0∈ls:=by rw[Aa,Ae hk];exact Ba hk
  constructor
  ·rintro⟨v,hv,g1,g2⟩;have hr:=(h1 v hv).1;rw[XM ht hr.1 hr.2 hk]at g1;have hx:=ht.rng v _ hr.1 hr.2 hl x g1;exact⟨v,hv,g1,hx,(I8 hf hx.1 hx.2).1 g2⟩
  ·rintro⟨v,hv,g1,g2,g3⟩;have hr:=(h1 v hv).1;refine⟨v,hv,?_,(I8 hf g2.1 g2.2).2 g3⟩;rw[XM ht hr.1 hr.2 hk];exact g1
 refine⟨by omega,fun x hx=>(h1 x hx).1,?_,?_⟩
 ·obtain⟨v,hv⟩:=List.exists_mem_of_ne_nil _ h2;obtain⟨hr,hfar⟩:=h1 v hv;obtain⟨l,hl,m,hm,hfm⟩:=QF hfar;obtain⟨e,he,rfl⟩:=Dk hl;refine⟨e,he,fun hc=> ?_⟩;have hl2:ls.getD e 0=ls[e]:=by rw[Aa,Ae he];rfl
  have:m∈bF tab dist e d at_ []:=(hmem e m he).2 ⟨v,hv,by rw[hl2];exact hm,ht.rng v _ hr.1 hr.2 hl m hm,hfm⟩;rw[hc]at this;cases this
 ·intro e he hne;refine⟨fun x hx=> ?_,hne,?_⟩
  ·obtain⟨v,hv,g1,g2,g3⟩:=(hmem e x he).1 hx;exact⟨g2,g3⟩
  ·refine CY (UW _ _ sm) fun x hx=> ?_;obtain⟨v,hv,g1,g2,g3⟩:=(hmem e x he).1 hx;exact g2
end
def movT(nx:Int->Int->List Int)(ls:List Int)(aL:Nat):List (List (List Int)):=(List.range aL).map fun(v:Nat)=>ls.map (nx v)
def aDd(nx:Int->Int->List Int)(gl:Int->Bool)(ls:List Int)(aL:Nat)(s:Int):List Int×Bool:=
 aCw (movT nx ls aL) ls (dJ (movT nx ls aL) (aL+1) 1 ((List.range aL).map (dR gl))) s
theorem aAA{nx:Int->Int->List Int}{ls:List Int}{aL:Nat}(hr:∀v c:Int,0<=v->v<aL->c∈ls->∀m∈nx v c,0<=m/\m<aL):Tab nx ls aL (movT nx ls aL):=by
 refine⟨by simp[movT],fun v hv=> ?_,hr⟩;rw[movT,Aa,Bb,List.getElem?_range hv];rfl
theorem aQc{nx:Int->Int->List Int}{gl:Int->Bool}{ls:List Int}{aL:Nat}{s:Int}(hr:∀v c:Int,0<=v->v<aL->c∈ls->∀m∈nx v c,0<=m/\m<aL)(ha:ls.Pairwise (·<·))(h0:0<=s)(h1:s<aL):XJ (Hits nx ls [s] gl) (aDd nx gl ls aL s):=
 aO3 (aAA hr) (aQB (aAA hr)) ha h0 h1
end
def OU(al x y:Int)(ok:Bool):Int:=if ok=true then bO al x y else 0
def C9(al:Int)(rs:List (List Int))(x y:Int)(ok:Bool):List (List Int):=if ok=true then f7 al rs x y (aC (bO al x y)) 0 rs.length else []
def CP(ac:List Bool)(ok:Bool):List Bool:=if ok=true then ac else []
theorem HL{p:Nat->Bool}{n:Nat}(h:(seek p n 0).isNone=true){i:Nat}(hi:i<n):p i=false:=
 jP.1 (by simpa using h) i om om
theorem yJ{al:Int}{rs:List (List Int)}{ac:List Bool}(h:d9 al rs ac=true):wL (aC al).length rs:=by
 unfold d9 at h;simp only[Aj]at h;intro r hr;obtain⟨i,hi,rfl⟩:=Dk hr;have hb:=HL h.2 hi;unfold gG at hb;rw[Aa,Ae hi]at hb;apply Classical.byContradiction;intro hc;rw[aI4 (by simp only[Bd];omega)]at hb;cases hb
theorem nY{al:Int}{rs:List (List Int)}{ac:List Bool}(h:d9 al rs ac=true):1<=rs.length/\rs.length<=12/\ac.length=rs.length/\bH al=true:=by
 unfold d9 at h;simp only[Aj,decide_eq_true_eq]at h;obtain⟨⟨⟨⟨h1,h2⟩,h3⟩,h4⟩,_⟩:=h;exact⟨by omega,by omega,by omega,h1⟩
def AOK(a:Aut):Prop:=d9 a.al a.nx a.ac=true
theorem aQV{al:Int}{rs:List (List Int)}{ac:List Bool}(h:d9 al rs ac=true){q i:Nat}(hq:q<rs.length)(hi:i<(aC al).length):0<=(rs.getD q []).getD i 0/\(rs.getD q []).getD i 0<rs.length:=by
 have hw:=yJ h;unfold d9 at h;simp only[Aj]at h;have hb:=HL h.2 hq;unfold gG CQ at hb;simp only[Ei,Eb,decide_eq_true_eq]at hb
 have hn:(seek (badQ rs.length (rs.getD q [])) (rs.getD q []).length 0).isNone=true:=by
  cases hs:seek (badQ rs.length (rs.getD q [])) (rs.getD q []).length 0 with
  |none=>rfl
  |some r=>rw[hs]at hb;cases hb.2
 exact yL.1 (HL hn om)
theorem GK{a:Aut}(h:AOK a){q l:Int}(h0:0<=q)(h1:q<a.nx.length)(h2:0<=l)(h3:l<6):0<=goI a.al a.nx q l/\goI a.al a.nx q l<a.nx.length:=by
 unfold goI
 split
 ·rename_i hb
  exact aQV h om (CU h2 h3 hb).1
 ·exact⟨h0,h1⟩
theorem ZX(al:Int):(aC al).Pairwise (·<·):=by
 unfold aC;exact List.Pairwise.filter _ dc
theorem P8{na nb v:Int}(hb:0<nb)(h0:0<=v)(h1:v<na*nb):(0<=v.tdiv nb/\v.tdiv nb<na)/\(0<=v.tmod nb/\v.tmod nb<nb):=by
 rw[Int.tdiv_eq_ediv_of_nonneg h0,Int.tmod_eq_emod_of_nonneg h0];exact⟨⟨Int.ediv_nonneg h0 om,Int.ediv_lt_of_lt_mul hb h1⟩,Int.emod_nonneg _ om,Int.emod_lt_of_pos _ hb⟩
theorem aKC{x y na nb:Int}(hx:0<=x/\x<na)(hy:0<=y/\y<nb):0<=x*nb+y/\x*nb+y<na*nb:=by
 have h1:0<=x*nb:=Cd hx.1 om;have h2:(x+1)*nb<=na*nb:=Cm om om;rw[Int.add_mul,Int.one_mul]at h2;omega
theorem aSh{l:List UInt8}{i j p:Nat}(hi:i<l.length)(hj:j<l.length):(swp l i j).getD p 0=if p=j then l.getD i 0 else if p=i then l.getD j 0 else l.getD p 0:=by
 unfold swp;simp only[Aa,Cu,Bt]
 by_cases h1:p=j
 ·subst h1;simp[hj]
 ·have h1':¬j=p:=fun h=>h1 h.symm
  by_cases h2:p=i
  ·subst h2;simp[hi,h1,h1']
  ·have h2':¬i=p:=fun h=>h2 h.symm;simp only[h1,h1',h2,h2',if_false]
theorem aJt:∀(q:Nat) (i j:Int) (l:List UInt8),0<=i->j<l.length->j-i<=q->∀p:Nat,p<l.length->(revG q i j l).2.2.getD p 0=if i<=p/\(p:Int)<=j then l.getD (i+j-p).toNat 0 else l.getD p 0
 |0,i,j,l,h0,h1,h2,p,hp=>by
  unfold revG
  split
  ·rename_i h
   rw[show(i+j-p).toNat=p by omega]
  ·rfl
 |q+1,i,j,l,h0,h1,h2,p,hp=>by
  unfold revG
  split
  ·rename_i hlt
   have hg:=fun(x:Nat)=>aSh (l:=l) (i:=i.toNat) (j:=j.toNat) (p:=x) om om;rw[aJt q (i+1) (j-1) _ om (by rw[BR];omega) om p (by rw[BR];exact hp)]
   by_cases c1:i+1<=(p:Int)/\(p:Int)<=j-1
   ·rw[if_pos c1,hg,if_neg (by omega:¬(i+1+(j-1)-(p:Int)).toNat=j.toNat),if_neg (by omega:¬(i+1+(j-1)-(p:Int)).toNat=i.toNat),if_pos (by omega:i<=(p:Int)/\(p:Int)<=j)]
    congr 1
    omega
   ·rw[if_neg c1,hg]
    by_cases c2:p=j.toNat
    ·rw[if_pos c2,if_pos (by omega:i<=(p:Int)/\(p:Int)<=j)]
     congr 1
     omega
    ·rw[if_neg c2]
     by_cases c3:p=i.toNat
     ·rw[if_pos c3,if_pos (by omega:i<=(p:Int)/\(p:Int)<=j)]
      congr 1
      omega
     ·rw[if_neg c3,if_neg (by omega:¬(i<=(p:Int)/\(p:Int)<=j))]
  ·rename_i hlt
   split
   ·rename_i h
    rw[show(i+j-p).toNat=p by omega]
   ·rfl
theorem aPN(l:List UInt8):(revG (l.length+1) 0 ((l.length:Int)-1) l).2.2=l.reverse:=by
 have hl:=(aDv (l.length+1) 0 ((l.length:Int)-1) l (Cb _) om).1;apply List.ext_getElem
 ·rw[hl,List.length_reverse]
 ·intro p h1 h2;rw[hl]at h1;have:=aJt (l.length+1) 0 ((l.length:Int)-1) l (Cb _) om om p h1;rw[if_pos om,Aa,Ae (by rw[hl];exact h1),Aa,Ae om]at this;simp only[Bd]at this;rw[this,List.getElem_reverse]
  congr 1
  omega
theorem aEv{l:List PStep}{k:Nat}(h:k<l.length):(((b9 l).drop (k*3)).map A.d).head? =some (.d (.int .i64 (l.getD k default).par)):=by
 rw[B1,bP h (d:=default)];rfl
theorem aOj{l:List PStep}{k:Nat}(h:k<l.length):(((b9 l).drop (k*3+1)).map A.d).head? =some (.d (.int .i64 (l.getD k default).lt)):=by
 rw[<-Br,B1,bP h (d:=default)];rfl
def aGX(st:List PStep):Nat->Nat->Nat
 |0,i=>i
 |j+1,i=>if 0<=(st.getD i default).par then aGX st j (st.getD i default).par.toNat else i
def Tree(st:List PStep):Prop:=∀k,k<st.length->((st.getD k default).par<(k:Int))/\(0<=(st.getD k default).lt/\(st.getD k default).lt<=5)
theorem aF8(st:List PStep):∀(j i:Nat),(gQ st j i).length<=j
 |0,i=>Ad _
 |j+1,i=>by
  unfold gQ
  split
  ·have:=aF8 st j (st.getD i default).par.toNat;simp only[Ai,Ac,Ab];omega
  ·simp
theorem aCh{R:Type}{L n:Nat}(hn:2<=n){st:List PStep}(ht:Tree st)(hs:st.length<=16777216){k:KE R}:∀(j i m:Nat) (o:List UInt8) (len:Nat) (hi:i<st.length) (hj:i<j) (hm:j<=m) (hlen:len=o.length) (ho:o.length+i<=20000000),
  aS env (aA env L n) L 0 [0,0,0,2] Bz49 (D1 0) (Z1 (U1 (Z2 (Z1 (U16 (U8 (U2 (U1 ([]))))))))) m (.d (.ivs st.length (b9 st))::Y1 (.d (.str [])::.sl 0 0 0 len::nI i::Y16 (Y8 (Y2 (Y1 ([])))))) [.arr (a7 o) 1 0] k
  =k (.exit 0) (.d (.ivs st.length (b9 st))::Y1 (.d (.str [])::.sl 0 0 0 (o++(txt (gQ st j i)).reverse).length::nI ((aGX st j i:Nat):Int)::Y16 (Y8 (Y2 (Y1 ([])))))) [.arr (a7 (o++(txt (gQ st j i)).reverse)) 1 0]:=by
 intro j
 induction j with
 |zero=>intro i m o len hi hj;omega
 |succ j ih=>
  intro i m o len hi hj hm hlen ho;obtain _|m:=m;omega;subst hlen;obtain⟨t1,t2,t3⟩:=ht i hi;have hc:(i:Int)<st.length:=om
  by_cases hp:0<=(st.getD i default).par
  ·have ih':=ih (st.getD i default).par.toNat m (o++[gC (st.getD i default).lt]) (o.length+1) om om om sm (by rw[Ai,Ci];omega);rw[show(((st.getD i default).par.toNat:Nat):Int)=(st.getD i default).par by omega]at ih';have h5:(((st.getD i default).par.toNat:Nat):Int)=(st.getD i default).par:=om;unfold gQ aGX;rw[if_pos hp,if_pos hp];clear ih;have e:(txt (gQ st j (st.getD i default).par.toNat++[(st.getD i default).lt])).reverse=[gC (st.getD i default).lt]++(txt (gQ st j (st.getD i default).par.toNat)).reverse:=by simp[txt]
   rw[e,<-Ao];have g1:=aEv hi;have g2:=aOj hi;generalize st.getD i default=s at *
   simp-implicitDefEqProofs (maxSteps:=9^7) (disch:=try exact Dz) only[↓DN,↓kRet,UP,simprocAttr,PE,Bj,Br,hc,hp,g1,g2,↓J6,↓ih',ES,BC,Tryz.f211]
  ·unfold gQ aGX;rw[if_neg hp,if_neg hp];have g1:=aEv hi;simp only[txt,Al,List.reverse_nil,Ah]
   simp-implicitDefEqProofs (maxSteps:=9^7) (disch:=try exact Dz) only[↓DN,↓kRet,UP,simprocAttr,PE,hc,hp,g1,ES,BC,Tryz.f211]
theorem QW{L n:Nat}(hn:3<=n)(st:List PStep)(ht:Tree st)(hs:st.length<=16777216)(h0:0<st.length)(hL:2^60<=L):aA env L n 211 [.d (.ivs st.length (b9 st))] []=some (.d (.str (XU st)),[]):=by
 have loop_w:=fun {R n k} hn=> @aCh R L n hn st ht hs k st.length (st.length-1) L [] 0 om om om rfl (by simp;omega);simp only[Am,aMm]at loop_w;have hwl:=aF8 st st.length (st.length-1);have hb:(txt (gQ st st.length (st.length-1))).reverse.length<=2147483648:=by simp[txt];omega
 have hrr:(txt (gQ st st.length (st.length-1))).reverse.reverse=XU st:=by rw[List.reverse_reverse];rfl
 have hwlen:(txt (gQ st st.length (st.length-1))).reverse.length=(XU st).length:=by simp[XU]
 generalize(txt (gQ st st.length (st.length-1))).reverse=w at *
 have e1:IntKind.i64.wrap ((st.length:Int)-1)=((st.length-1:Nat):Int):=by
  rw[show(st.length:Int)-1=((st.length-1:Nat):Int) by omega];exact dM om om
 have kc_r:=fun {R:Type} {n id g:Nat} {hq:H} {k:KA R} (hn:1<=n) (hi:hq[id]? =some (.arr (a7 w) 1 g))=> @aSK R L n id g hq k hn w hi hb hL;have er:=aPN w;rw[hrr]at er;simp only[er]at kc_r;simp only[hwlen]at kc_r;simp only[hwlen]at loop_w;have h1:(1:Int)<=st.length:=om;obtain _|n:=n;omega
 simp-implicitDefEqProofs (maxSteps:=9^7) (disch:=try exact Dz) only[↓DN,↓kAsg,↓kRet,UP,simprocAttr,↓loop_w,e1,↓kc_r,↓sY,aGS,TX,Tryz.f211]
theorem aGp:type_of% fun {L} st ht hs h0 hL=>kt fun hn=> @QW L _ hn st ht hs h0 hL:=fun {L} st ht hs h0 hL=>kt fun hn=> @QW L _ hn st ht hs h0 hL
theorem aB3{L:Nat}{id0 g0 o0 len0:Nat}:KV L 211 [.sl id0 g0 o0 len0]:=fun _ _ _ _=>fI yI
theorem aI1{st:List PStep}{p l:Int}{f:List Int}:st.length<=(addP st p l f).length:=by unfold addP;split<;>simp
theorem aIZ{st:List PStep}{i:Nat}{l:Int}{f:List Int}(ht:Tree st)(hi:i<st.length)(hl:0<=l/\l<=5):Tree (addP st i l f):=by
 unfold addP
 split
 ·exact ht
 ·intro k hk;simp only[Ai,Ac,Ab]at hk
  by_cases h:k<st.length
  ·rw[iB h];exact ht k h
  ·obtain rfl:k=st.length:=om;rw[xN];exact⟨by show(i:Int)<_;omega,hl⟩
theorem aLF{R:Type}{L n dn:Nat}(hn:dn+5<=n)(hL:2^60<=L){I:Int->Prop}{gl:Int->Bool}{nf gf:FuncId}{caps gcaps:List D}{size:Nat}{nx:Int->Int->List Int}{gn:Int->Int->Nat}{ls ns:List Int}{ii:Nat}
  (kc_n:∀ {R:Type} {n id:Nat} {hq:H} {k:KA R} (x c:Int) (o:List Int),dn+4<=n->I x->0<=c->c<6->o.length<=4200000000->hq[id]? =some (.arr (ints o) 1 0)->aW env (aA env L n) hq nf (nI x::nI c::.sl id 0 0 o.length::caps.map A.d) k=k (.sl id (gn x c) 0 (o++nx x c).length) (hq.set id (.arr (ints (o++nx x c)) 1 (gn x c))))
  (kc_g:∀ {R:Type} {n:Nat} {hq:H} {k:KA R} (x:Int),2<=n->I x->aW env (aA env L n) hq gf (nI x::gcaps.map A.d) k=k (.d (.bool (gl x))) hq)
  (hr:∀x,I x->0<=x/\x<size) (hsz:size<=1000000) (hI:∀x∈ns,I x) (hx:∀x c,I x->0<=c->c<6->∀y∈nx x c,I y) (hw:∀x c,(nx x c).length<=4096) (hls:∀c∈ls,0<=c/\c<=5) (hll:ls.length<=6) (hnl:ns.length<=size) {k:KE R}:∀(j q m:Nat) (seen:List Bool) (st:List PStep) (sn:Nat) (hi:q+j=ls.length) (hm:j<m) (hg:PGood I size seen st) (htr:Tree st) (hii:ii<st.length) (hns:(st.getD ii default).ns=ns) (hsn:sn=st.length),
  aS env (aA env L n) L 0 (W16 (W2 [2])) Bz3 (jB 1) (U2 (Z2 (U4 (U2 (Z2 (U1 (Z2 (Z1 (U16 (U1 (Z2 (Z1 (U16 (U8 (U2 (U1 ([]))))))))))))))))) m (Y2 (.d (.ivs ls.length (ints ls))::.d (.fn nf caps)::Y4 (Y2 (.d (.str [])::.d (.bool false)::Y1 (.ptr 0 0 0::.clo 210 [.ptr 1 0 0,.ptr 2 0 0,.ptr 0 0 0]::nI ii::Y16 (Y1 (.d (.ivs ls.length (ints ls))::nI (ls.length)::nI q::Y16 (Y8 (Y2 (Y1 ([]))))))))))) [.box [.sl 3 0 0 sn],.box [.sl 4 0 0 size],.box [.d (.fn gf gcaps)],.arr (b9 st) 3 0,.arr (dF seen) 1 0] k
  =if(ltG nx gl ns ii (ls.drop q) (seen,st)).1=true then
    k .ret (Y2 (.d (.ivs ls.length (ints ls))::.d (.fn nf caps)::Y4 (Y2 (.d (.str ((XU (ltG nx gl ns ii (ls.drop q) (seen,st)).2.2)))::.d (.bool true)::Y1 (.ptr 0 0 0::.clo 210 [.ptr 1 0 0,.ptr 2 0 0,.ptr 0 0 0]::nI ii::Y16 (Y1 (.d (.ivs ls.length (ints ls))::nI (ls.length)::nI ((q+ltI nx gl ns ii (ls.drop q) (seen,st):Nat):Int)::Y16 (Y8 (Y2 (Y1 ([]))))))))))) [.box [.sl 3 0 0 (ltG nx gl ns ii (ls.drop q) (seen,st)).2.2.length],.box [.sl 4 0 0 size],.box [.d (.fn gf gcaps)],.arr (b9 (ltG nx gl ns ii (ls.drop q) (seen,st)).2.2) 3 0,.arr (dF (ltG nx gl ns ii (ls.drop q) (seen,st)).2.1) 1 0]
   else k (.exit 2) (Y2 (.d (.ivs ls.length (ints ls))::.d (.fn nf caps)::Y4 (Y2 (.d (.str [])::.d (.bool false)::Y1 (.ptr 0 0 0::.clo 210 [.ptr 1 0 0,.ptr 2 0 0,.ptr 0 0 0]::nI ii::Y16 (Y1 (.d (.ivs ls.length (ints ls))::nI (ls.length)::nI (ls.length)::Y16 (Y8 (Y2 (Y1 ([]))))))))))) [.box [.sl 3 0 0 (ltG nx gl ns ii (ls.drop q) (seen,st)).2.2.length],.box [.sl 4 0 0 size],.box [.d (.fn gf gcaps)],.arr (b9 (ltG nx gl ns ii (ls.drop q) (seen,st)).2.2) 3 0,.arr (dF (ltG nx gl ns ii (ls.drop q) (seen,st)).2.1) 1 0]:=by
 intro j
 induction j with
 |zero=>
  intro q m seen st sn hi hm hg htr hii hns hsn;obtain _|m:=m;omega;obtain rfl:q=ls.length:=om;subst hsn
  simp-implicitDefEqProofs (maxSteps:=9^7) (disch:=try exact Dz) only[↓DN,↓kRet,UP,simprocAttr,Ak,rP,qV,Tryz.f152];simp only[Bl,ltG,Ap,if_false]
 |succ j ih=>
  intro q m seen st sn hi hm hg htr hii hns hsn;obtain _|m:=m;omega;subst hsn;have hc:(q:Int)<ls.length:=om;have hk:q<ls.length:=om;have hmem:ls.getD q 0∈ls:=by rw[Aa,Ae hk];exact Ba hk
  obtain⟨c0,c5⟩:=hls _ hmem;have c6:ls.getD q 0<6:=om;have hiI:(ii:Int)<st.length:=om;have hroom:=hg.room;have hstl:st.length<=4294967290:=om;rw[bP hk (d:=0)]
  have hI2:∀y∈flat nx ns (ls.getD q 0),I y:=by
   intro y hy;obtain⟨x,h1,h2⟩:=Du.1 hy;exact hx x (ls.getD q 0) (hI x h1) c0 c6 y h2
  have hfl:=aHh (c:=ls.getD q 0) hw ns;have hfl2:(flat nx ns (ls.getD q 0)).length<=4294967290:=om;obtain⟨g1,g2,g3⟩:=MW (gl:=gl) hg hI2 hr (ii:Int) (ls.getD q 0);have htr2:Tree (addP st ii (ls.getD q 0) (visG gl (flat nx ns (ls.getD q 0)) seen [] false).2.1):=aIZ htr hii ⟨c0,c5⟩;have hlen2:=aI1 (st:=st) (p:=(ii:Int)) (l:=ls.getD q 0) (f:=(visG gl (flat nx ns (ls.getD q 0)) seen [] false).2.1);have ih':=ih (q+1) m (visG gl (flat nx ns (ls.getD q 0)) seen [] false).1 (addP st ii (ls.getD q 0) (visG gl (flat nx ns (ls.getD q 0)) seen [] false).2.1) _ om om g1 htr2 om (by rw[aPB hii];exact hns) rfl;have e4:((q+1:Nat):Int)=(q:Int)+1:=om;rw[e4]at ih';have loop_c:=fun {R:Type} {n:Nat} (hn:dn+4<=n) {k:KE R}=> @aLv R L n dn hn hL I nf caps (.fn gf gcaps) size nx gn ls ns (b9 st) seen st.length ii q (ls.getD q 0) (fun {R n id hq k}=>kc_n) hI hw c0 c6 om k ns.length 0 L [] 0 om om sm rfl;simp only[Ax,Am,gY,Aw]at loop_c;have kc_v:=fun {R n k} hn=> @aRJ R L n k hn hL I gl gf gcaps size (ii:Int) (ls.getD q 0) (flat nx ns (ls.getD q 0)) (fun {R n hq k}=>kc_g) hI2 hr om hfl2 seen hg.len st hstl;have hroom2:=g1.room;have kl_w:=@aGp L _ htr2 om om hL;simp only[ltG,ltI];clear ih hmem g1 g2 g3 hg hI hI2 hx hw hls hr kc_n kc_g hroom2;generalize flat nx ns (ls.getD q 0)=fm at *;generalize visG gl fm seen [] false=v at *;obtain⟨v1,v2,v3⟩:=v;simp only at ih' kc_v kl_w|-
  cases v3 with
  |true=>
   simp-implicitDefEqProofs (maxSteps:=9^7) (disch:=try exact Dz) only[↓DN,↓kAsg,↓kRet,UP,simprocAttr,↓aB3,PE,hc,hiI,hns,↓loop_c,↓kc_v,↓kl_w,rP,qV,Tryz.f152]
  |false=>
   simp only[Ap,if_false];generalize ltI nx gl ns (ii:Int) (ls.drop (q+1)) (v1,addP st ii (ls.getD q 0) v2)=T at *;rw[show q+(T+1)=q+1+T by omega]
   simp-implicitDefEqProofs (maxSteps:=9^7) (disch:=try exact Dz) only[↓DN,↓kAsg,↓kRet,UP,simprocAttr,PE,hc,hiI,hns,↓loop_c,↓kc_v,↓ih',rP,qV,Tryz.f152]
theorem WL{nx:Int->Int->List Int}{gl:Int->Bool}{ns:List Int}{i:Nat}:∀(ls:List Int) (hls:∀c∈ls,0<=c/\c<=5) (seen:List Bool) (st:List PStep),Tree st->i<st.length->Tree (ltG nx gl ns i ls (seen,st)).2.2
 | [],_,_,_,h,_=>h
 |l::ls,hls,seen,st,h,hi=>by
  have h2:Tree (addP st i l (visG gl (flat nx ns l) seen [] false).2.1):=aIZ h hi (hls l Bg);unfold ltG
  split
  ·exact h2
  ·exact WL ls (fun c hc=>hls c (Bc _ hc)) _ _ h2 (Db hi aI1)
theorem aLH{R:Type}{L n dn:Nat}(hn:dn+6<=n)(hL:2^60<=L){I:Int->Prop}{gl:Int->Bool}{nf gf:FuncId}{caps gcaps:List D}{size:Nat}{nx:Int->Int->List Int}{gn:Int->Int->Nat}{ls:List Int}
  (kc_n:∀ {R:Type} {n id:Nat} {hq:H} {k:KA R} (x c:Int) (o:List Int),dn+4<=n->I x->0<=c->c<6->o.length<=4200000000->hq[id]? =some (.arr (ints o) 1 0)->aW env (aA env L n) hq nf (nI x::nI c::.sl id 0 0 o.length::caps.map A.d) k=k (.sl id (gn x c) 0 (o++nx x c).length) (hq.set id (.arr (ints (o++nx x c)) 1 (gn x c))))
  (kc_g:∀ {R:Type} {n:Nat} {hq:H} {k:KA R} (x:Int),2<=n->I x->aW env (aA env L n) hq gf (nI x::gcaps.map A.d) k=k (.d (.bool (gl x))) hq)
  (hr:∀x,I x->0<=x/\x<size) (hsz:size<=1000000) (hx:∀x c,I x->0<=c->c<6->∀y∈nx x c,I y) (hw:∀x c,(nx x c).length<=4096) (hls:∀c∈ls,0<=c/\c<=5) (hll:ls.length<=6) {k:KE R}:∀(j i m:Nat) (seen:List Bool) (st:List PStep) (sn:Nat) (hi:st.length+gX seen<=i+j) (hi2:i<=st.length) (hm:j<m) (hg:PGood I size seen st) (htr:Tree st) (hsn:sn=st.length),
  aS env (aA env L n) L 0 (W16 (W2 [2])) Bz3 (jB 0) (U2 (Z2 (U4 (U2 (Z2 (U1 (Z2 (Z1 (U32 (U8 (U4 (U2 (U1 ([])))))))))))))) m (Y2 (.d (.ivs ls.length (ints ls))::.d (.fn nf caps)::Y4 (Y2 (.d (.str [])::.d (.bool false)::Y1 (.ptr 0 0 0::.clo 210 [.ptr 1 0 0,.ptr 2 0 0,.ptr 0 0 0]::nI i::Y32 (Y8 (Y4 (Y2 (Y1 ([])))))))))) [.box [.sl 3 0 0 sn],.box [.sl 4 0 0 size],.box [.d (.fn gf gcaps)],.arr (b9 st) 3 0,.arr (dF seen) 1 0] k
  =if(outG nx gl ls j i (seen,st)).1=true then
    k .ret (Y2 (.d (.ivs ls.length (ints ls))::.d (.fn nf caps)::Y4 (Y2 (.d (.str ((XU (outG nx gl ls j i (seen,st)).2.2)))::.d (.bool true)::Y1 (.ptr 0 0 0::.clo 210 [.ptr 1 0 0,.ptr 2 0 0,.ptr 0 0 0]::nI ((outI nx gl ls j i (seen,st):Nat):Int)::Y32 (Y8 (Y4 (Y2 (Y1 ([])))))))))) [.box [.sl 3 0 0 (outG nx gl ls j i (seen,st)).2.2.length],.box [.sl 4 0 0 size],.box [.d (.fn gf gcaps)],.arr (b9 (outG nx gl ls j i (seen,st)).2.2) 3 0,.arr (dF (outG nx gl ls j i (seen,st)).2.1) 1 0]
   else k (.exit 0) (Y2 (.d (.ivs ls.length (ints ls))::.d (.fn nf caps)::Y4 (Y2 (.d (.str [])::.d (.bool false)::Y1 (.ptr 0 0 0::.clo 210 [.ptr 1 0 0,.ptr 2 0 0,.ptr 0 0 0]::nI ((outI nx gl ls j i (seen,st):Nat):Int)::Y32 (Y8 (Y4 (Y2 (Y1 ([])))))))))) [.box [.sl 3 0 0 (outG nx gl ls j i (seen,st)).2.2.length],.box [.sl 4 0 0 size],.box [.d (.fn gf gcaps)],.arr (b9 (outG nx gl ls j i (seen,st)).2.2) 3 0,.arr (dF (outG nx gl ls j i (seen,st)).2.1) 1 0]:=by
 intro j
 induction j with
 |zero=>
  intro i m seen st sn hi hi2 hm hg htr hsn;obtain _|m:=m;omega;obtain rfl:i=st.length:=om;subst hsn;simp only[outG,outI,Ap,if_false]
  simp-implicitDefEqProofs (maxSteps:=9^7) (disch:=try exact Dz) only[↓DN,↓kRet,UP,simprocAttr,Ak,mB,mC,Tryz.f152]
 |succ j ih=>
  intro i m seen st sn hi hi2 hm hg htr hsn;obtain _|m:=m;omega;subst hsn
  by_cases hc:i<st.length
  ·have hci:(i:Int)<st.length:=om;have hroom:=hg.room;have hmem:st.getD i default∈st:=by rw[Aa,Ae hc];exact Ba hc
   have hI:=hg.node _ hmem;have hnl:=hg.wide _ hmem;obtain⟨k1,k2,k3⟩:=RA (gl:=gl) (nx:=nx) (p:=(i:Int)) hr hI ls (seen,st) (fun x c h1 h2=>hx x c h1 (hls c h2).1 (by have:=(hls c h2).2;omega)) hg;have ktr:=WL (gl:=gl) (nx:=nx) (ns:=(st.getD i default).ns) ls hls seen st htr hc;have loop_b:=fun {R:Type} {n:Nat} (hn:dn+5<=n) {k:KE R}=> @aLF R L n dn hn hL I gl nf gf caps gcaps size nx gn ls (st.getD i default).ns i (fun {R n id hq k}=>kc_n) (fun {R n hq k}=>kc_g) hr hsz hI hx hw hls hll hnl k ls.length 0 L seen st st.length om om hg htr hc rfl rfl;simp only[Ax,Aw,Ag]at loop_b;have ih':=ih (i+1) m (ltG nx gl (st.getD i default).ns i ls (seen,st)).2.1 (ltG nx gl (st.getD i default).ns i ls (seen,st)).2.2 _ (by have:(ltG nx gl (st.getD i default).ns i ls (seen,st)).2.2.length+gX (ltG nx gl (st.getD i default).ns i ls (seen,st)).2.1<=st.length+gX seen:=k2;omega) (by have:st.length<=(ltG nx gl (st.getD i default).ns i ls (seen,st)).2.2.length:=k3;omega) om k1 ktr rfl;have e4:((i+1:Nat):Int)=(i:Int)+1:=om;rw[e4]at ih';simp only[outG,outI,hc,if_true];clear ih hmem k1 k2 k3 ktr hg hI hx hw hls hr kc_n kc_g hnl;generalize ltI nx gl (st.getD i default).ns (i:Int) ls (seen,st)=T at *;generalize ltG nx gl (st.getD i default).ns (i:Int) ls (seen,st)=w at *;obtain⟨w0,w1,w2⟩:=w;simp only at ih' loop_b|-;have hll3:ls.length<=4294967290:=om
   cases w0 with
   |true=>
    simp only[if_true]at loop_b
    simp-implicitDefEqProofs (maxSteps:=9^7) (disch:=try exact Dz) only[↓DN,↓kRet,UP,simprocAttr,hci,↓loop_b,mB,mC,Tryz.f152]
   |false=>
    simp only[Ap,if_false]at loop_b|-
    simp-implicitDefEqProofs (maxSteps:=9^7) (disch:=try exact Dz) only[↓DN,↓kRet,UP,simprocAttr,hci,↓loop_b,↓ih',mB,mC,Tryz.f152]
  ·obtain rfl:i=st.length:=om;simp only[outG,outI,hc,Ap,if_false]
   simp-implicitDefEqProofs (maxSteps:=9^7) (disch:=try exact Dz) only[↓DN,↓kRet,UP,simprocAttr,Ak,mB,mC,Tryz.f152]
theorem P6{n:Int}{h:H}(h0:0<=n)(h1:n<=4294967296):fG env.P h 24 n n=some (.sl h.length 0 0 n.toNat,h++[.arr (dF (List.replicate n.toNat false)) 1 0]):=by
 have hm:n<=(bI:Nat):=by unfold bI;omega
 have he:cN env.P 24=some 4:=kr;have hz:cX env.P 4=some (.d (.bool false)):=kr;have hok:d5 env.P 4=true:=kr;have hc:env.P.cellsOf 4=1:=kr;simp only[fG,he,hz,aU,vF,Ay,hok,h0,hm,hc,Cb,and_self,if_true,dF,List.map_replicate,List.flatten_replicate_singleton]
theorem aEe{L n dn:Nat}(hn:dn+7<=n)(hL:2^60<=L){I:Int->Prop}{gl:Int->Bool}{nf gf:FuncId}{caps gcaps:List D}{size:Nat}{nx:Int->Int->List Int}{gn:Int->Int->Nat}{ls ns:List Int}
  (kc_n:∀ {R:Type} {n id:Nat} {hq:H} {k:KA R} (x c:Int) (o:List Int),dn+4<=n->I x->0<=c->c<6->o.length<=4200000000->hq[id]? =some (.arr (ints o) 1 0)->aW env (aA env L n) hq nf (nI x::nI c::.sl id 0 0 o.length::caps.map A.d) k=k (.sl id (gn x c) 0 (o++nx x c).length) (hq.set id (.arr (ints (o++nx x c)) 1 (gn x c))))
  (kc_g:∀ {R:Type} {n:Nat} {hq:H} {k:KA R} (x:Int),2<=n->I x->aW env (aA env L n) hq gf (nI x::gcaps.map A.d) k=k (.d (.bool (gl x))) hq)
  (hr:∀x,I x->0<=x/\x<size) (hsz:size<=1000000) (hI:∀x∈ns,I x) (hx:∀x c,I x->0<=c->c<6->∀y∈nx x c,I y) (hw:∀x c,(nx x c).length<=4096) (hls:∀c∈ls,0<=c/\c<=5) (hll:ls.length<=6) (hne:ns≠[]) (hnl:ns.length<=size):
  aA env L n 152 [nI size,.d (.ivs ns.length (ints ns)),.d (.ivs ls.length (ints ls)),.d (.fn nf caps),.d (.fn gf gcaps)] []=some (.tup [.d (.str (txt (QK nx gl ls ns size).1)),.d (.bool (QK nx gl ls ns size).2)],[]):=by
 have hs0:(0:Int)<=size:=om;have hs1:(size:Int)<=4294967296:=om;have kc_v:=fun {R:Type} {n:Nat} {k:KA R} {p l:Int} (hn:4<=n)=> @aQZ R L n k hn hL I gl gf gcaps size p l ns (fun {R n hq k}=>kc_g) hI hr om om hne;have hu:gX (List.replicate size false)=size:=by simp[gX]
 have hg0:PGood I size (List.replicate size false) []:=⟨by simp,by simp,by rw[hu];simp,by simp⟩
 obtain⟨g1,g2,g3⟩:=MW (gl:=gl) hg0 hI hr (-1) 0;have hpos:=aHP (size:=size) hne;rw[<-(y5 gl ns (List.replicate size false) [] false).2]at hpos;unfold QK;generalize visG gl ns (List.replicate size false) [] false=r at *;obtain⟨r0,r1,r2⟩:=r;simp only at g1 g2 g3 hpos kc_v|-
 have ha:addP [] (-1) 0 r1=[⟨-1,0,r1⟩]:=by
  unfold addP;rw[if_neg (Ed.1 hpos)];rfl
 rw[ha]at g1 g2
 have htr:Tree [⟨-1,0,r1⟩]:=by
  intro k hk;obtain rfl:k=0:=by simpa using hk
  exact⟨by show(-1:Int)<_;omega,by show(0:Int)<=0/\(0:Int)<=5;decide⟩
 have loop_a:=fun {R:Type} {n:Nat} (hn:dn+6<=n) {k:KE R}=> @aLH R L n dn hn hL I gl nf gf caps gcaps size nx gn ls (fun {R n id hq k}=>kc_n) (fun {R n hq k}=>kc_g) hr hsz hx hw hls hll k (size+1) 0 L r0 [⟨-1,0,r1⟩] 1 (by rw[hu]at g2;simp only[Ab,Ag]at g2;omega) sm om g1 htr rfl;simp only[Aw]at loop_a;have ee:(b9 [⟨-1,0,r1⟩])=[.int .i64 (-1),.int .i64 0,.ivs r1.length (ints r1)]:=rfl;rw[ha];clear g1 g2 g3 hg0 hI hx hw hls hr kc_n kc_g htr
 cases r2 with
 |true=>
  obtain _|n:=n;omega
  simp-implicitDefEqProofs (maxSteps:=9^7) (disch:=try exact Dz) only[↓DN,↓kAsg,↓kRet,UP,simprocAttr,↓P6,↓kc_v,BE,vX,Tryz.f152]<;>rfl
 |false=>
  simp only[Ap,if_false];generalize outI nx gl ls (size+1) 0 (r0,[⟨-1,0,r1⟩])=T at *;generalize outG nx gl ls (size+1) 0 (r0,[⟨-1,0,r1⟩])=w at *;obtain⟨w0,w1,w2⟩:=w;simp only at loop_a|-
  cases w0 with
  |true=>
   simp only[if_true]at loop_a|-;obtain _|n:=n;omega
   simp-implicitDefEqProofs (maxSteps:=9^7) (disch:=try exact Dz) only[↓DN,↓kAsg,↓kRet,UP,simprocAttr,↓P6,↓kc_v,↓loop_a,BE,vX,Tryz.f152]<;>rfl
  |false=>
   simp only[Ap,if_false]at loop_a|-;obtain _|n:=n;omega
   simp-implicitDefEqProofs (maxSteps:=9^7) (disch:=try exact Dz) only[↓DN,↓kAsg,↓kRet,UP,simprocAttr,↓P6,↓kc_v,↓loop_a,BE,vX,Tryz.f152]<;>rfl
end Ev
end Go.Proofs.YtahbdkmimmnadaaGreatDoor
