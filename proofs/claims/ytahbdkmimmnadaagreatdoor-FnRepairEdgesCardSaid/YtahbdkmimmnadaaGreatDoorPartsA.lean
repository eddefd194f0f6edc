/-
  A search for a goal, walked.
-/
import Derived.Test.YtahbdkmimmnadaaGreatDoorPathV
import Derived.Test.YtahbdkmimmnadaaGreatDoorDraw2
import Derived.Test.YtahbdkmimmnadaaGreatDoorEdges
import Derived.Test.YtahbdkmimmnadaaGreatDoorDistG
import Derived.Test.YtahbdkmimmnadaaGreatDoorPartsN
set_option linter.unusedSimpArgs false
set_option linter.unusedVariables false
set_option linter.unusedSectionVars false
set_option maxRecDepth 8000
set_option maxHeartbeats 4000000
namespace Go.Proofs.YtahbdkmimmnadaaGreatDoor
namespace Ev
theorem aMY{st:List PStep}{p l:Int}{f:List Int}{i:Nat}(h:i<st.length):(addP st p l f).getD i default=st.getD i default:=by
 unfold addP
 split
 ·rfl
 ·exact hU h
theorem aL7{nx:Int->Int->List Int}{l:Int}:flat nx [] l=[]:=rfl
theorem aCu{nx:Int->Int->List Int}{n l:Int}{ns:List Int}:flat nx (n::ns) l=nx n l++flat nx ns l:=rfl
theorem aFj{nx:Int->Int->List Int}{c:Int}(hw:∀x c,(nx x c).length<=4096):∀ns:List Int,(flat nx ns c).length<=4096*ns.length
 | []=>by simp[flat]
 |x::ns=>by simp only[aCu,Ah,Ac];have:=hw x c;have:=aFj (c:=c) hw ns;omega
def ltI(nx:Int->Int->List Int)(gl:Int->Bool)(ns:List Int)(p:Int):List Int->List Bool×List PStep->Nat
 | [],_=>0
 |l::ls,q=>if(visG gl (flat nx ns l) q.1 [] false).2.2=true then 0 else ltI nx gl ns p ls ((visG gl (flat nx ns l) q.1 [] false).1,addP q.2 p l (visG gl (flat nx ns l) q.1 [] false).2.1)+1
def outI(nx:Int->Int->List Int)(gl:Int->Bool)(ls:List Int):Nat->Nat->List Bool×List PStep->Nat
 |0,i,_=>i
 |j+1,i,q=>if i<q.2.length then
   (if(ltG nx gl (q.2.getD i default).ns i ls q).1=true then i
    else outI nx gl ls j (i+1) (ltG nx gl (q.2.getD i default).ns i ls q).2)
  else i
def txt(w:List Int):List UInt8:=w.map sB
def TF(st:List PStep):List UInt8:=txt (gS st st.length (st.length-1))
theorem ZU{R:Type}{E:Env}{call:aW}{h:H}{f:FuncId}{args:List A}{len:Nat}{k:KA R}{id e g e2 g2:Nat}{cs cs2:List D}(hi:h[id]? =some (.arr cs e g))(hid:idsL args=[id])(hm:(E.hint f).mode=0)(he:call f (aE (aH [id]) args) [.arr cs e g]=some (.sl 0 g2 0 len,[.arr cs2 e2 g2])):
  aU E call h f args k=k (.sl id g2 0 len) (h.set id (.arr cs2 e2 g2)):=by
 have hre:aC aD h [id] []=[id]:=by
  have e1:aC aD h [id] []=match h[id]? with
   |some (.box cs)=>aC (aD-1) h ([]++idsL cs) ([]++[id])
   |some (.vec cs _ _)=>aC (aD-1) h ([]++idsL cs) ([]++[id])
   |some .void=>aC (aD-1) h [] []
   |some _=>aC (aD-1) h [] ([]++[id])
   |none=>aC (aD-1) h [] []:=rfl
  rw[e1,hi];rfl
 have hpk:pack h [id]=[.arr cs e g]:=by
  simp only[pack,Ag,Ak,Ab,hi];rfl
 unfold aU;rw[hid,hre,hpk]
 have hc:bJ call E.hint [.arr cs e g] f (aE (aH [id]) args)=some (.sl 0 g2 0 len,[.arr cs2 e2 g2]):=by
  unfold bJ;rw[hm];exact he
 rw[hc]
 have hcl:closed h [id] [id]=true:=by
  simp only[closed,Bt,Ce,hi];simp
 have hb:back [id] h.length 1 0=some id:=rfl;simp only[Ac,Aa,Ad,hcl,and_self,if_true,mapA,Af,hb];simp only[bA,mapO,Ak,Ai]
theorem aJq{R:Type}{L n dn:Nat}(hn:dn+4<=n)(hL:2^60<=L){I:Int->Prop}{nf:FuncId}{caps:List D}{gb:D}{size:Nat}{nx:Int->Int->List Int}{gn:Int->Int->Nat}{ls ns:List Int}{sc:List D}{seen:List Bool}{sn ii q:Nat}{c:Int}
  (kc_n:∀ {R:Type} {n id:Nat} {hq:H} {k:KA R} (x c:Int) (o:List Int),dn+4<=n->I x->0<=c->c<6->o.length<=4200000000->hq[id]? =some (.arr (ints o) 1 0)->aU env (aA env L n) hq nf (nI x::nI c::.sl id 0 0 o.length::caps.map A.d) k=k (.sl id (gn x c) 0 (o++nx x c).length) (hq.set id (.arr (ints (o++nx x c)) 1 (gn x c))))
  (hI:∀x∈ns,I x) (hw:∀x c,(nx x c).length<=4096) (hc0:0<=c) (hc6:c<6) (hnl:ns.length<=1000000) {k:KE R}:∀(j i m:Nat) (o:List Int) (len:Nat) (hi:i+j=ns.length) (hm:j<m) (ho:o.length<=4096*i) (hlen:len=o.length),
  aV env (aA env L n) L 0 (W16 (W2 [2])) Bz3 (jC 2) (U2 (Z2 (U4 (U2 (Z2 (U1 (Z2 (Z1 (U1 (Z2 (U8 (U4 (U2 (Z2 (Z1 (U4 (U2 (U1 (Z2 (Z1 (U16 (U1 ([]))))))))))))))))))))))) m (Y2 (.d (.ivs ls.length (ints ls))::.d (.fn nf caps)::Y4 (Y2 (.d (.str [])::.d (.bool false)::Y1 (.ptr 0 0 0::.clo 210 [.ptr 1 0 0,.ptr 2 0 0,.ptr 0 0 0]::nI ii::Y1 (nI c::.sl 3 0 0 len::Y8 (Y4 (Y2 (.d (.ivs ls.length (ints ls))::nI (ls.length)::nI q::Y4 (Y2 (Y1 (.d (.ivs ns.length (ints ns))::nI (ns.length)::nI i::Y16 (Y1 ([])))))))))))))) [.box [.sl 4 0 0 sn],.box [.sl 5 0 0 size],.box [.d gb],.arr (ints o) 1 0,.arr sc 3 0,.arr (dI seen) 1 0] k
  =k (.exit 4) (Y2 (.d (.ivs ls.length (ints ls))::.d (.fn nf caps)::Y4 (Y2 (.d (.str [])::.d (.bool false)::Y1 (.ptr 0 0 0::.clo 210 [.ptr 1 0 0,.ptr 2 0 0,.ptr 0 0 0]::nI ii::Y1 (nI c::.sl 3 0 0 (o++flat nx (ns.drop i) c).length::Y8 (Y4 (Y2 (.d (.ivs ls.length (ints ls))::nI (ls.length)::nI q::Y4 (Y2 (Y1 (.d (.ivs ns.length (ints ns))::nI (ns.length)::nI (ns.length)::Y16 (Y1 ([])))))))))))))) [.box [.sl 4 0 0 sn],.box [.sl 5 0 0 size],.box [.d gb],.arr (ints (o++flat nx (ns.drop i) c)) 1 0,.arr sc 3 0,.arr (dI seen) 1 0]:=by
 intro j
 induction j with
 |zero=>
  intro i m o len hi hm ho hlen;obtain _|m:=m;omega;obtain rfl:i=ns.length:=om;subst hlen
  simp-implicitDefEqProofs (maxSteps:=9^7) (disch:=try exact Dz) only[↓DN,↓kRet,UP,simprocAttr,Al,AW,xD,Tryz.f152];simp only[Cg,aL7,Ai,Aa,Br]
 |succ j ih=>
  intro i m o len hi hm ho hlen;obtain _|m:=m;omega;subst hlen;have hc:(i:Int)<ns.length:=om;have hk:i<ns.length:=om;have hmem:ns.getD i 0∈ns:=by rw[Ab,Ae hk];exact Bd hk
  have hIx:=hI _ hmem;have hww:=hw (ns.getD i 0) c;have hob:o.length<=4200000000:=om;have e4:((i+1:Nat):Int)=(i:Int)+1:=om;have ih':=ih (i+1) m (o++nx (ns.getD i 0) c) (o.length+(nx (ns.getD i 0) c).length) om om (by rw[Ah];omega) (by rw[Ah]);rw[e4]at ih';rw[bM hk (d:=0)];simp only[aCu,<-Ao];have kc_m:=fun {R:Type} {n id:Nat} {hq:H} {k:KA R} (h4:dn+4<=n) (hg:hq[id]? =some (.arr (ints o) 1 0))=> @kc_n R n id hq k (ns.getD i 0) c o h4 hIx hc0 hc6 hob hg;clear ih hmem kc_n;generalize nx (ns.getD i 0) c=w at *
  simp-implicitDefEqProofs (maxSteps:=9^7) (disch:=try exact Dz) only[↓DN,↓kRet,UP,simprocAttr,hc,↓kc_m,↓ih',AW,xD,Tryz.f152]
theorem RF:∀(ns:List Int) (s:List Bool) (f:List Int),f.length<=(visF ns s f).2.length
 | [],s,f=>Ad _
 |n::ns,s,f=>by
  unfold visF
  split
  ·exact RF ns s f
  ·have:=RF ns (s.set n.toNat true) (f++[n]);simp only[Ah,Ac,Aa]at this;omega
theorem aGU{ns:List Int}{size:Nat}(h:ns≠[]):0<(visF ns (List.replicate size false) []).2.length:=by
 cases ns with
 |nil=>exact absurd rfl h
 |cons n ns=>
  have e:(List.replicate size false).getD n.toNat false=false:=by
   rw[Ab,List.getElem?_replicate]
   split<;>rfl
  unfold visF;rw[e];have:=RF ns ((List.replicate size false).set n.toNat true) ([]++[n]);simp only[Ah,Ac,Aa]at this;simp only[Aj,if_false];omega
theorem aOY{R:Type}{L n:Nat}{k:KA R}(hn:4<=n)(hL:2^60<=L){I:Int->Prop}{gl:Int->Bool}{gf:FuncId}{caps:List D}{size:Nat}{p l:Int}{ns:List Int}(kc_g:∀ {R:Type} {n:Nat} {hq:H} {k:KA R} (x:Int),2<=n->I x->aU env (aA env L n) hq gf (nI x::caps.map A.d) k=k (.d (.bool (gl x))) hq)(hI:∀x∈ns,I x)(hr:∀x,I x->0<=x/\x<size)(hsz:size<=4294967290)(hnl:ns.length<=4294967290)(hne:ns≠[]):
  F5 env (aA env L n) [.box [.d (.fn gf caps)],.arr (dI (List.replicate size false)) 1 0,.arr [] 0 0,.box [.sl 1 0 0 size],.arr [] 0 0,.box [.sl 4 0 0 0]] 210 [.ptr 3 0 0,.ptr 0 0 0,.ptr 5 0 0] [nI p,nI l,.d (.ivs ns.length (ints ns))] k
  =k (.d (.bool (visG gl ns (List.replicate size false) [] false).2.2)) [.box [.d (.fn gf caps)],.arr (dI (visG gl ns (List.replicate size false) [] false).1) 1 0,.arr [] 0 0,.box [.sl 1 0 0 size],.arr (cA [⟨p,l,(visG gl ns (List.replicate size false) [] false).2.1⟩]) 3 1,.box [.sl 4 1 0 1]]:=by
 have he:=aOl (gl:=gl) (p:=p) (l:=l) hn hL (fun {R n hq k}=>kc_g) hI hr hsz hnl (List.replicate size false) sm _ rfl (by have:=aGU (size:=size) hne;rw[(xT gl ns _ [] false).2];omega);unfold F5;generalize List.replicate size false=sz at *;generalize hh:[O.box [.d (.fn gf caps)],.arr (dI sz) 1 0,.arr [] 0 0,.box [.sl 1 0 0 size],.arr [] 0 0,.box [.sl 4 0 0 0]]=h;have hre:aC aD h (idsL [A.ptr 3 0 0,.ptr 0 0 0,.ptr 5 0 0]++idsL [A.d (.int .i64 p),nI l,.d (.ivs ns.length (ints ns))]) []=[3,0,5,1,4]:=by subst hh;rfl
 have hpk:pack h [3,0,5,1,4]=[.box [.sl 3 0 0 size],.box [.d (.fn gf caps)],.box [.sl 4 0 0 0],.arr (dI sz) 1 0,.arr [] 0 0]:=by subst hh;rfl
 have hma:aE (aH [3,0,5,1,4]) [A.d (.int .i64 p),nI l,.d (.ivs ns.length (ints ns))]++aE (aH [3,0,5,1,4]) [A.ptr 3 0 0,.ptr 0 0 0,.ptr 5 0 0]=[nI p,nI l,.d (.ivs ns.length (ints ns)),.ptr 0 0 0,.ptr 1 0 0,.ptr 2 0 0]:=rfl
 have hca:∀h f args,bJ (aA env L n) env.hint h f args=if(env.hint f).mode=0 then aA env L n f args h else bJ (aA env L n) env.hint h f args:=by
  intro h f args
  split
  ·rename_i hm
   unfold bJ;rw[hm];rfl
  ·rfl
 rw[hre,hpk,hma,hca,if_pos lE,he];have hcl:closed h [3,0,5,1,4] (idsL [A.ptr 3 0 0,.ptr 0 0 0,.ptr 5 0 0]++idsL [A.d (.int .i64 p),nI l,.d (.ivs ns.length (ints ns))])=true:=by subst hh;rfl
 subst hh;simp only[hcl,Ac,Aa,Ad,and_self,if_true]<;>rfl
def gV(r:List Bool×List Int×Bool):Nat:=if r.2.1=[]then 0 else 1
theorem aOU{R:Type}{L n:Nat}{k:KA R}(hn:4<=n)(hL:2^60<=L){I:Int->Prop}{gl:Int->Bool}{gf:FuncId}{caps:List D}{size:Nat}{p l:Int}{ns:List Int}(kc_g:∀ {R:Type} {n:Nat} {hq:H} {k:KA R} (x:Int),2<=n->I x->aU env (aA env L n) hq gf (nI x::caps.map A.d) k=k (.d (.bool (gl x))) hq)(hI:∀x∈ns,I x)(hr:∀x,I x->0<=x/\x<size)(hsz:size<=4294967290)(hnl:ns.length<=4294967290)(seen:List Bool)(hs:seen.length=size)(st:List PStep)(hst:st.length<=4294967290):
  F5 env (aA env L n) [.box [.sl 4 0 0 st.length],.box [.sl 5 0 0 size],.box [.d (.fn gf caps)],.arr (ints ns) 1 0,.arr (cA st) 3 0,.arr (dI seen) 1 0] 210 [.ptr 1 0 0,.ptr 2 0 0,.ptr 0 0 0] [nI p,nI l,.sl 3 0 0 ns.length] k
  =k (.d (.bool (visG gl ns seen [] false).2.2)) [.box [.sl 4 (gV (visG gl ns seen [] false)) 0 (addP st p l (visG gl ns seen [] false).2.1).length],.box [.sl 5 0 0 size],.box [.d (.fn gf caps)],.arr (ints ns) 1 0,.arr (cA (addP st p l (visG gl ns seen [] false).2.1)) 3 (gV (visG gl ns seen [] false)),.arr (dI (visG gl ns seen [] false).1) 1 0]:=by
 have he:=aOn (gl:=gl) (p:=p) (l:=l) hn hL (fun {R n hq k}=>kc_g) hI hr hsz hnl seen hs st hst _ rfl;unfold F5;generalize hh:[O.box [.sl 4 0 0 st.length],.box [.sl 5 0 0 size],.box [.d (.fn gf caps)],.arr (ints ns) 1 0,.arr (cA st) 3 0,.arr (dI seen) 1 0]=h;have hre:aC aD h (idsL [A.ptr 1 0 0,.ptr 2 0 0,.ptr 0 0 0]++idsL [A.d (.int .i64 p),nI l,.sl 3 0 0 ns.length]) []=[1,2,0,3,5,4]:=by subst hh;rfl
 have hpk:pack h [1,2,0,3,5,4]=[.box [.sl 4 0 0 size],.box [.d (.fn gf caps)],.box [.sl 5 0 0 st.length],.arr (ints ns) 1 0,.arr (dI seen) 1 0,.arr (cA st) 3 0]:=by subst hh;rfl
 have hma:aE (aH [1,2,0,3,5,4]) [A.d (.int .i64 p),nI l,.sl 3 0 0 ns.length]++aE (aH [1,2,0,3,5,4]) [A.ptr 1 0 0,.ptr 2 0 0,.ptr 0 0 0]=[nI p,nI l,.sl 3 0 0 ns.length,.ptr 0 0 0,.ptr 1 0 0,.ptr 2 0 0]:=rfl
 have hca:∀h f args,bJ (aA env L n) env.hint h f args=if(env.hint f).mode=0 then aA env L n f args h else bJ (aA env L n) env.hint h f args:=by
  intro h f args
  split
  ·rename_i hm
   unfold bJ;rw[hm];rfl
  ·rfl
 rw[hre,hpk,hma,hca,if_pos lE,he];have hcl:closed h [1,2,0,3,5,4] (idsL [A.ptr 1 0 0,.ptr 2 0 0,.ptr 0 0 0]++idsL [A.d (.int .i64 p),nI l,.sl 3 0 0 ns.length])=true:=by subst hh;rfl
 subst hh;simp only[hcl,Ac,Aa,Ad,and_self,if_true]<;>rfl
structure OkN(N:Net)(states:List Int)(i:Nat):Prop where
 hi:i<N.us.length
 hs:N.ps.length+i<states.length
 ha:(N.us.getD i default).ac.length<=4294967290
 q0:0<=states.getD (N.ps.length+i) 0
 q1:states.getD (N.ps.length+i) 0<(N.us.getD i default).ac.length
theorem aGn{L n:Nat}(hn:2<=n)(N:Net)(states:List Int)(mvs:List (List Int))(hk:N.kind=0\/N.kind=1\/N.kind=2\/N.kind=3)(h1:N.ps.length<=1000)(h2:N.us.length<=1000)(hs2:states.length<=4000)(ho:OkN N states 0)(ho2:N.kind=1\/N.kind=2->OkN N states 1)(hL:2^60<=L):aA env L n 156 [.agg [.d (.ivs N.ps.length (sysD N.ps)),.d (.ivs N.us.length (jV N.us)),.d (.ivs N.start.length (ints N.start)),nI N.ls,nI N.kind,nI N.goal],.d (.ivs states.length (ints states)),.d (.ivs mvs.length (aN mvs))] []=some (.d (.bool (aG3 N states mvs)),[]):=by
 have kc_a:=fun {R n hq k} hn=> @aDr R L n hq k hn N states 0 ho.hi h1 h2 ho.hs hs2 ho.ha ho.q0 ho.q1 hL;simp only[Av]at kc_a;have kc_b:=fun(hx:OkN N states 1) {R:Type} {n:Nat} {hq:H} {k:KA R} (hn:1<=n)=> @aDr R L n hq k hn N states 1 hx.hi h1 h2 hx.hs hs2 hx.ha hx.q0 hx.q1 hL;simp only[show((1:Nat):Int)=1 from rfl]at kc_b;unfold aG3
 rcases hk with hk|hk|hk|hk
 ·rw[hk]at kc_a|-;clear kc_b ho2;generalize okN N states 0=b0 at *;obtain _|n:=n;omega
  simp-implicitDefEqProofs (maxSteps:=9^7) (disch:=try exact Dz) only[↓DN,↓kAsg,↓kRet,UP,simprocAttr,↓kc_a,qX,pJ,Tryz.f156]
 ·have kc_b:=fun {R:Type} {n:Nat} {hq:H} {k:KA R} (hn:1<=n)=>kc_b (ho2 (.inl hk)) (R:=R) (n:=n) (hq:=hq) (k:=k) hn;rw[hk]at kc_a kc_b|-;generalize okN N states 0=b0 at *;generalize okN N states 1=b1 at *;obtain _|n:=n;omega
  simp-implicitDefEqProofs (maxSteps:=9^7) (disch:=try exact Dz) only[↓DN,↓kAsg,↓kRet,UP,simprocAttr,↓kc_a,↓kc_b,qX,pJ,Tryz.f156]
  all_goals (cases b0<;>cases b1<;>rfl)
 ·have kc_b:=fun {R:Type} {n:Nat} {hq:H} {k:KA R} (hn:1<=n)=>kc_b (ho2 (.inr hk)) (R:=R) (n:=n) (hq:=hq) (k:=k) hn;rw[hk]at kc_a kc_b|-;generalize okN N states 0=b0 at *;generalize okN N states 1=b1 at *
  cases b0 with
  |true=>
   obtain _|n:=n;omega
   simp-implicitDefEqProofs (maxSteps:=9^7) (disch:=try exact Dz) only[↓DN,↓kAsg,↓kRet,UP,simprocAttr,↓kc_a,↓kc_b,qX,pJ,Tryz.f156]
  |false=>
   obtain _|n:=n;omega
   simp-implicitDefEqProofs (maxSteps:=9^7) (disch:=try exact Dz) only[↓DN,↓kAsg,↓kRet,UP,simprocAttr,↓kc_a,qX,pJ,Tryz.f156]
 ·rw[hk]at kc_a|-;clear kc_b ho2;generalize okN N states 0=b0 at *;obtain _|n:=n;omega
  simp-implicitDefEqProofs (maxSteps:=9^7) (disch:=try exact Dz) only[↓DN,↓kAsg,↓kRet,UP,simprocAttr,↓kc_a,qX,pJ,Tryz.f156]
theorem wN{R:Type}{E:Env}{call:aW}{h blk blk2 h2:H}{f:FuncId}{args fs:List A}{r:A}{k:KA R}{ids ord:List Nat}(hm:(E.hint f).mode=2)(hids:idsL args=ids)(hre:aC aD h ids []=ord)(hpk:pack h ord=blk)(hf:fA blk (aE (aH ord) args)=some (fs,blk2))(hcl:closed h ord ids=true)(hc:call f fs []=some (r,[]))(hr:idsA r=[])(hl:ord.length<=blk2.length)(hpb:bA (back ord h.length blk2.length) h ord blk2=h2):
  aU E call h f args k=k r h2:=by
 unfold aU;rw[hids,hre,hpk]
 have hc:bJ call E.hint blk f (aE (aH ord) args)=some (r,blk2):=by
  unfold bJ;rw[hm];simp only[hf,hc]
 rw[hc];simp only[hl,hcl,and_self,if_true,nL r hr,hpb]
def d6(gl:Int->Bool)(v:Nat):Int:=if gl v=true then 0 else -1
def gEnd(tab:List (List (List Int)))(dist ls:List Int):Nat->List Int->List Int
 |0,at_=>at_
 |d+1,at_=>gEnd tab dist ls d (MZ tab dist at_ d (ls.length+1) 0).2
theorem ZF{tab:List (List (List Int))}{dist ls at_:List Int}{d:Int}(h:∃e,e<ls.length/\bB tab dist e d at_ []≠[]):∃e,e<ls.length/\MZ tab dist at_ d (ls.length+1) 0=(e,bB tab dist e d at_ [])/\bB tab dist e d at_ []≠[]/\∀f,f<e->bB tab dist f d at_ []=[]:=by
 obtain⟨e0,h1,h2⟩:=h;obtain⟨e,_,_,g1,g2,g3⟩:=aB6 (tab:=tab) (dist:=dist) (at_:=at_) (d:=d) (ls.length+1) 0 ⟨e0,by omega,by omega,h2⟩;refine⟨e,?_,g1,g2,fun f hf=>g3 f om hf⟩
 by_cases hlt:e0<e
 ·exact(h2 (g3 e0 om hlt)).elim
 ·omega
section
theorem JF:∀ {N:Nat} {l:List Int},l.Nodup->(∀x∈l,0<=x/\x<N)->l.length<=N
 |0,l,_,hr=>by
  cases l with
  |nil=>exact Ad _
  |cons x l=>have:=hr x Bl;omega
 |N+1,l,hn,hr=>by
  by_cases h:(N:Int)∈l
  ·have h1:=JF (N:=N) (l:=l.erase (N:Int)) (hn.erase (N:Int)) (fun x hx=>by
    rw[hn.mem_erase_iff]at hx;have:=hr x hx.2;omega)
   rw[List.length_erase_of_mem h]at h1;omega
  ·have h1:=JF (N:=N) hn (fun x hx=>by
    have:=hr x hx;have:x≠N:=fun e=>h (e▸hx);omega)
   omega
theorem MN{dist:List Int}{d:Int}:∀(ms out:List Int),out.Nodup->(addC dist d ms out).Nodup
 | [],out,h=>h
 |m::ms,out,h=>by
  unfold addC
  split
  ·rename_i hc
   refine MN ms _ ?_;rw[List.nodup_append];exact⟨h,by simp,fun a ha b hb=>by simp at hb;subst hb;exact fun e=>hc.2 (e▸ha)⟩
  ·exact MN ms out h
theorem SL{tab:List (List (List Int))}{dist:List Int}{k:Nat}{d:Int}:∀(vs out:List Int),out.Nodup->(bB tab dist k d vs out).Nodup
 | [],out,h=>h
 |v::vs,out,h=>SL vs _ (MN _ _ h)
section
variable{nx:Int->Int->List Int}{gl:Int->Bool}{ls:List Int}{aL:Nat}{tab:List (List (List Int))}
theorem aPC:ZY nx ls gl aL ((List.range aL).map (d6 gl)) 0:=by
 refine⟨by simp,fun i hi=> ?_⟩
 have e:((List.range aL).map (d6 gl)).getD i 0=d6 gl i:=by
  rw[Ab,Bc,List.getElem?_range hi];rfl
 rw[e]
 by_cases hg:gl i=true
 ·refine .inl ⟨0,Ad _,by unfold d6;rw[if_pos hg];rfl,SA.2 hg,fun e he=>by omega⟩
 ·refine .inr ⟨by unfold d6;rw[if_neg hg],fun e he ha=> ?_⟩;obtain rfl:e=0:=om;exact hg (SA.1 ha)
theorem aNF(ht:Tab nx ls aL tab):Full nx ls gl aL (dL tab (aL+1) 1 ((List.range aL).map (d6 gl))):=by
 have:=aLU ht (aL+1) 0 ((List.range aL).map (d6 gl)) aPC (by
  have:=List.countP_le_length (p:=fun(x:Int)=>decide (x<0)) (l:=(List.range aL).map (d6 gl));simp at this|-;omega)
 simpa using this
theorem MR{d B:Int}(hd:d<=B):∀(j i:Nat) (q:List Int×Bool),(∀x∈q.1,x<=B)->∀x∈(dS tab d j i q).1,x<=B
 |0,_,q,h=>h
 |j+1,i,q,h=>by
  simp only[dS]
  split
  ·refine MR hd j _ _ fun x hx=> ?_
   rcases Dd hx with hx|rfl
   ·exact h x hx
   ·exact hd
  ·exact MR hd j _ q h
theorem aAr{B:Int}:∀(j:Nat) (d:Int) (dist:List Int),d+j<=B+1->(∀x∈dist,x<=B)->∀x∈dL tab j d dist,x<=B
 |0,d,dist,_,h=>h
 |j+1,d,dist,hd,h=>by
  have hr:=MR (tab:=tab) (d:=d) (B:=B) om dist.length 0 (dist,false) h;simp only[dL]
  split
  ·exact aAr j (d+1) _ om hr
  ·exact hr
def Qs(nx:Int->Int->List Int)(ls:List Int)(gl:Int->Bool)(aL d:Nat)(at_:List Int):Prop:=(∀v∈at_,(0<=v/\v<aL)/\Far nx ls gl v d)/\at_≠[]/\at_.length<=aL
theorem aOW(ht:Tab nx ls aL tab){dist:List Int}(hf:Full nx ls gl aL dist)(htt:aL<=65536):∀d at_,Qs nx ls gl aL (d+1) at_->at_.length<=65536/\(∀x∈at_,0<=x/\x<aL)/\(∃e,e<ls.length/\bB tab dist e d at_ []≠[])/\∀e,e<ls.length->bB tab dist e d at_ []≠[]->Qs nx ls gl aL d (bB tab dist e d at_ []):=by
 intro d at_ ⟨h1,h2,h3⟩
 have hmem:∀k x,k<ls.length->(x∈bB tab dist k d at_ []↔∃v∈at_,x∈nx v (ls.getD k 0)/\(0<=x/\x<aL)/\Far nx ls gl x d):=by
  intro k x hk;rw[MM];simp only[Bo,false_or];have hl:ls.getD k 0∈ls:=by rw[Ab,Ae hk];exact Bd hk
  constructor
  ·rintro⟨v,hv,g1,g2⟩;have hr:=(h1 v hv).1;rw[TG ht hr.1 hr.2 hk]at g1;have hx:=ht.rng v _ hr.1 hr.2 hl x g1;exact⟨v,hv,g1,hx,(FL hf hx.1 hx.2).1 g2⟩
  ·rintro⟨v,hv,g1,g2,g3⟩;have hr:=(h1 v hv).1;refine⟨v,hv,?_,(FL hf g2.1 g2.2).2 g3⟩;rw[TG ht hr.1 hr.2 hk];exact g1
 refine⟨by omega,fun x hx=>(h1 x hx).1,?_,?_⟩
 ·obtain⟨v,hv⟩:=List.exists_mem_of_ne_nil _ h2;obtain⟨hr,hfar⟩:=h1 v hv;obtain⟨l,hl,m,hm,hfm⟩:=N4 hfar;obtain⟨e,he,rfl⟩:=Dj hl;refine⟨e,he,fun hc=> ?_⟩;have hl2:ls.getD e 0=ls[e]:=by rw[Ab,Ae he];rfl
  have:m∈bB tab dist e d at_ []:=(hmem e m he).2 ⟨v,hv,by rw[hl2];exact hm,ht.rng v _ hr.1 hr.2 hl m hm,hfm⟩;rw[hc]at this;cases this
 ·intro e he hne;refine⟨fun x hx=> ?_,hne,?_⟩
  ·obtain⟨v,hv,g1,g2,g3⟩:=(hmem e x he).1 hx;exact⟨g2,g3⟩
  ·refine JF (SL _ _ sm) fun x hx=> ?_;obtain⟨v,hv,g1,g2,g3⟩:=(hmem e x he).1 hx;exact g2
end
def movT(nx:Int->Int->List Int)(ls:List Int)(aL:Nat):List (List (List Int)):=(List.range aL).map fun(v:Nat)=>ls.map (nx v)
def YU(nx:Int->Int->List Int)(gl:Int->Bool)(ls:List Int)(aL:Nat)(s:Int):List Int×Bool:=
 Y7 (movT nx ls aL) ls (dL (movT nx ls aL) (aL+1) 1 ((List.range aL).map (d6 gl))) s
theorem X0{nx:Int->Int->List Int}{ls:List Int}{aL:Nat}(hr:∀v c:Int,0<=v->v<aL->c∈ls->∀m∈nx v c,0<=m/\m<aL):Tab nx ls aL (movT nx ls aL):=by
 refine⟨by simp[movT],fun v hv=> ?_,hr⟩;rw[movT,Ab,Bc,List.getElem?_range hv];rfl
theorem aML{nx:Int->Int->List Int}{gl:Int->Bool}{ls:List Int}{aL:Nat}{s:Int}(hr:∀v c:Int,0<=v->v<aL->c∈ls->∀m∈nx v c,0<=m/\m<aL)(ha:ls.Pairwise (·<·))(h0:0<=s)(h1:s<aL):TL (Hits nx ls [s] gl) (YU nx gl ls aL s):=
 aNq (X0 hr) (aNF (X0 hr)) ha h0 h1
end
theorem XY{p:Nat->Bool}{n:Nat}(h:(seek p n 0).isNone=true){i:Nat}(hi:i<n):p i=false:=
 kF.1 (by simpa using h) i om om
theorem aAd{al:Int}{rs:List (List Int)}{ac:List Bool}(h:iT al rs ac=true):vJ (aG al).length rs:=by
 unfold iT at h;simp only[Ap]at h;intro r hr;obtain⟨i,hi,rfl⟩:=Dj hr;have hb:=XY h.2 hi;unfold i8 at hb;rw[Ab,Ae hi]at hb;apply Classical.byContradiction;intro hc;rw[aGB (by simp only[Bh];omega)]at hb;cases hb
theorem aLC{al:Int}{rs:List (List Int)}{ac:List Bool}(h:iT al rs ac=true):1<=rs.length/\rs.length<=12/\ac.length=rs.length/\fQ al=true:=by
 unfold iT at h;simp only[Ap,decide_eq_true_eq]at h;obtain⟨⟨⟨⟨h1,h2⟩,h3⟩,h4⟩,_⟩:=h;exact⟨by omega,by omega,by omega,h1⟩
def AOK(a:Aut):Prop:=iT a.al a.nx a.ac=true
theorem aOX{al:Int}{rs:List (List Int)}{ac:List Bool}(h:iT al rs ac=true){q i:Nat}(hq:q<rs.length)(hi:i<(aG al).length):0<=(rs.getD q []).getD i 0/\(rs.getD q []).getD i 0<rs.length:=by
 have hw:=aAd h;unfold iT at h;simp only[Ap]at h;have hb:=XY h.2 hq;unfold i8 BT at hb;simp only[Ei,Ea,decide_eq_true_eq]at hb
 have hn:(seek (badQ rs.length (rs.getD q [])) (rs.getD q []).length 0).isNone=true:=by
  cases hs:seek (badQ rs.length (rs.getD q [])) (rs.getD q []).length 0 with
  |none=>rfl
  |some r=>rw[hs]at hb;cases hb.2
 exact M4.1 (XY hn om)
theorem L4{a:Aut}(h:AOK a){q l:Int}(h0:0<=q)(h1:q<a.nx.length)(h2:0<=l)(h3:l<6):0<=goI a.al a.nx q l/\goI a.al a.nx q l<a.nx.length:=by
 unfold goI
 split
 ·rename_i hb
  exact aOX h om (QR h2 h3 hb).1
 ·exact⟨h0,h1⟩
theorem WB(al:Int):(aG al).Pairwise (·<·):=by
 unfold aG;exact List.Pairwise.filter _ dc
theorem NZ{na nb v:Int}(hb:0<nb)(h0:0<=v)(h1:v<na*nb):(0<=v.tdiv nb/\v.tdiv nb<na)/\(0<=v.tmod nb/\v.tmod nb<nb):=by
 rw[Int.tdiv_eq_ediv_of_nonneg h0,Int.tmod_eq_emod_of_nonneg h0];exact⟨⟨Int.ediv_nonneg h0 om,Int.ediv_lt_of_lt_mul hb h1⟩,Int.emod_nonneg _ om,Int.emod_lt_of_pos _ hb⟩
theorem aIQ{x y na nb:Int}(hx:0<=x/\x<na)(hy:0<=y/\y<nb):0<=x*nb+y/\x*nb+y<na*nb:=by
 have h1:0<=x*nb:=Cm hx.1 om;have h2:(x+1)*nb<=na*nb:=Cq om om;rw[Int.add_mul,Int.one_mul]at h2;omega
theorem aPe{l:List UInt8}{i j p:Nat}(hi:i<l.length)(hj:j<l.length):(swp l i j).getD p 0=if p=j then l.getD i 0 else if p=i then l.getD j 0 else l.getD p 0:=by
 unfold swp;simp only[Ab,Co,Be]
 by_cases h1:p=j
 ·subst h1;simp[hj]
 ·have h1':¬j=p:=fun h=>h1 h.symm
  by_cases h2:p=i
  ·subst h2;simp[hi,h1,h1']
  ·have h2':¬i=p:=fun h=>h2 h.symm;simp only[h1,h1',h2,h2',if_false]
theorem aFA:∀(q:Nat) (i j:Int) (l:List UInt8),0<=i->j<l.length->j-i<=q->∀p:Nat,p<l.length->(revG q i j l).2.2.getD p 0=if i<=p/\(p:Int)<=j then l.getD (i+j-p).toNat 0 else l.getD p 0
 |0,i,j,l,h0,h1,h2,p,hp=>by
  unfold revG
  split
  ·rename_i h
   rw[show(i+j-p).toNat=p by omega]
  ·rfl
 |q+1,i,j,l,h0,h1,h2,p,hp=>by
  unfold revG
  split
  ·rename_i hlt
   have hg:=fun(x:Nat)=>aPe (l:=l) (i:=i.toNat) (j:=j.toNat) (p:=x) om om;rw[aFA q (i+1) (j-1) _ om (by rw[z5];omega) om p (by rw[z5];exact hp)]
   by_cases c1:i+1<=(p:Int)/\(p:Int)<=j-1
   ·rw[if_pos c1,hg,if_neg (by omega:¬(i+1+(j-1)-(p:Int)).toNat=j.toNat),if_neg (by omega:¬(i+1+(j-1)-(p:Int)).toNat=i.toNat),if_pos (by omega:i<=(p:Int)/\(p:Int)<=j)]
    congr 1
    omega
   ·rw[if_neg c1,hg]
    by_cases c2:p=j.toNat
    ·rw[if_pos c2,if_pos (by omega:i<=(p:Int)/\(p:Int)<=j)]
     congr 1
     omega
    ·rw[if_neg c2]
     by_cases c3:p=i.toNat
     ·rw[if_pos c3,if_pos (by omega:i<=(p:Int)/\(p:Int)<=j)]
      congr 1
      omega
     ·rw[if_neg c3,if_neg (by omega:¬(i<=(p:Int)/\(p:Int)<=j))]
  ·rename_i hlt
   split
   ·rename_i h
    rw[show(i+j-p).toNat=p by omega]
   ·rfl
theorem aM0(l:List UInt8):(revG (l.length+1) 0 ((l.length:Int)-1) l).2.2=l.reverse:=by
 have hl:=(aBg (l.length+1) 0 ((l.length:Int)-1) l (Int.le_refl _) om).1;apply List.ext_getElem
 ·rw[hl,List.length_reverse]
 ·intro p h1 h2;rw[hl]at h1;have:=aFA (l.length+1) 0 ((l.length:Int)-1) l (Int.le_refl _) om om p h1;rw[if_pos om,Ab,Ae (by rw[hl];exact h1),Ab,Ae om]at this;simp only[Bh]at this;rw[this,List.getElem_reverse]
  congr 1
  omega
theorem aDq{l:List PStep}{k:Nat}(h:k<l.length):(((cA l).drop (k*3)).map A.d).head? =some (.d (.int .i64 (l.getD k default).par)):=by
 rw[AD,bM h (d:=default)];rfl
theorem aLy{l:List PStep}{k:Nat}(h:k<l.length):(((cA l).drop (k*3+1)).map A.d).head? =some (.d (.int .i64 (l.getD k default).lt)):=by
 rw[<-Bg,AD,bM h (d:=default)];rfl
def aED(st:List PStep):Nat->Nat->Nat
 |0,i=>i
 |j+1,i=>if 0<=(st.getD i default).par then aED st j (st.getD i default).par.toNat else i
def Tree(st:List PStep):Prop:=∀k,k<st.length->((st.getD k default).par<(k:Int))/\(0<=(st.getD k default).lt/\(st.getD k default).lt<=5)
theorem aCp(st:List PStep):∀(j i:Nat),(gS st j i).length<=j
 |0,i=>Ad _
 |j+1,i=>by
  unfold gS
  split
  ·have:=aCp st j (st.getD i default).par.toNat;simp only[Ah,Ac,Aa];omega
  ·simp
theorem aAa{R:Type}{L n:Nat}(hn:2<=n){st:List PStep}(ht:Tree st)(hs:st.length<=16777216){k:KE R}:∀(j i m:Nat) (o:List UInt8) (len:Nat) (hi:i<st.length) (hj:i<j) (hm:j<=m) (hlen:len=o.length) (ho:o.length+i<=20000000),
  aV env (aA env L n) L 0 [0,0,0,2] Bz44 (CK 0) (Z1 (U1 (Z2 (Z1 (U16 (U8 (U2 (U1 ([]))))))))) m (.d (.ivs st.length (cA st))::Y1 (.d (.str [])::.sl 0 0 0 len::nI i::Y16 (Y8 (Y2 (Y1 ([])))))) [.arr (bE o) 1 0] k
  =k (.exit 0) (.d (.ivs st.length (cA st))::Y1 (.d (.str [])::.sl 0 0 0 (o++(txt (gS st j i)).reverse).length::nI ((aED st j i:Nat):Int)::Y16 (Y8 (Y2 (Y1 ([])))))) [.arr (bE (o++(txt (gS st j i)).reverse)) 1 0]:=by
 intro j
 induction j with
 |zero=>intro i m o len hi hj;omega
 |succ j ih=>
  intro i m o len hi hj hm hlen ho;obtain _|m:=m;omega;subst hlen;obtain⟨t1,t2,t3⟩:=ht i hi;have hc:(i:Int)<st.length:=om
  by_cases hp:0<=(st.getD i default).par
  ·have ih':=ih (st.getD i default).par.toNat m (o++[sB (st.getD i default).lt]) (o.length+1) om om om sm (by rw[Ah,Bu];omega);rw[show(((st.getD i default).par.toNat:Nat):Int)=(st.getD i default).par by omega]at ih';have h5:(((st.getD i default).par.toNat:Nat):Int)=(st.getD i default).par:=om;unfold gS aED;rw[if_pos hp,if_pos hp];clear ih;have e:(txt (gS st j (st.getD i default).par.toNat++[(st.getD i default).lt])).reverse=[sB (st.getD i default).lt]++(txt (gS st j (st.getD i default).par.toNat)).reverse:=by simp[txt]
   rw[e,<-Ao];have g1:=aDq hi;have g2:=aLy hi;generalize st.getD i default=s at *
   simp-implicitDefEqProofs (maxSteps:=9^7) (disch:=try exact Dz) only[↓DN,↓kRet,UP,simprocAttr,PE,Ba,Bg,hc,hp,g1,g2,↓aAq,↓ih',DH,zZ,Tryz.f211]
  ·unfold gS aED;rw[if_neg hp,if_neg hp];have g1:=aDq hi;simp only[txt,Ak,List.reverse_nil,Ai]
   simp-implicitDefEqProofs (maxSteps:=9^7) (disch:=try exact Dz) only[↓DN,↓kRet,UP,simprocAttr,PE,hc,hp,g1,DH,zZ,Tryz.f211]
theorem O3{L n:Nat}(hn:3<=n)(st:List PStep)(ht:Tree st)(hs:st.length<=16777216)(h0:0<st.length)(hL:2^60<=L):aA env L n 211 [.d (.ivs st.length (cA st))] []=some (.d (.str (TF st)),[]):=by
 have loop_w:=fun {R n k} hn=> @aAa R L n hn st ht hs k st.length (st.length-1) L [] 0 om om om rfl (by simp;omega);simp only[Am,aJn]at loop_w;have hwl:=aCp st st.length (st.length-1);have hb:(txt (gS st st.length (st.length-1))).reverse.length<=2147483648:=by simp[txt];omega
 have hrr:(txt (gS st st.length (st.length-1))).reverse.reverse=TF st:=by rw[List.reverse_reverse];rfl
 have hwlen:(txt (gS st st.length (st.length-1))).reverse.length=(TF st).length:=by simp[TF]
 generalize(txt (gS st st.length (st.length-1))).reverse=w at *
 have e1:IntKind.i64.wrap ((st.length:Int)-1)=((st.length-1:Nat):Int):=by
  rw[show(st.length:Int)-1=((st.length-1:Nat):Int) by omega];exact dW om om
 have kc_r:=fun {R:Type} {n id g:Nat} {hq:H} {k:KA R} (hn:1<=n) (hi:hq[id]? =some (.arr (bE w) 1 g))=> @aPg R L n id g hq k hn w hi hb hL;have er:=aM0 w;rw[hrr]at er;simp only[er]at kc_r;simp only[hwlen]at kc_r;simp only[hwlen]at loop_w;have h1:(1:Int)<=st.length:=om;obtain _|n:=n;omega
 simp-implicitDefEqProofs (maxSteps:=9^7) (disch:=try exact Dz) only[↓DN,↓kAsg,↓kRet,UP,simprocAttr,↓loop_w,e1,↓kc_r,↓LU,aEi,QQ,Tryz.f211]
theorem aEg:type_of% fun {L} st ht hs h0 hL=>kt fun hn=> @O3 L _ hn st ht hs h0 hL:=fun {L} st ht hs h0 hL=>kt fun hn=> @O3 L _ hn st ht hs h0 hL
theorem YO{L:Nat}{id0 g0 o0 len0:Nat}:KV L 211 [.sl id0 g0 o0 len0]:=fun _ _ _ _=>d7 xQ
theorem aFY{st:List PStep}{p l:Int}{f:List Int}:st.length<=(addP st p l f).length:=by unfold addP;split<;>simp
theorem aE8{st:List PStep}{i:Nat}{l:Int}{f:List Int}(ht:Tree st)(hi:i<st.length)(hl:0<=l/\l<=5):Tree (addP st i l f):=by
 unfold addP
 split
 ·exact ht
 ·intro k hk;simp only[Ah,Ac,Aa]at hk
  by_cases h:k<st.length
  ·rw[hU h];exact ht k h
  ·obtain rfl:k=st.length:=om;rw[vW];exact⟨by show(i:Int)<_;omega,hl⟩
theorem aJQ{R:Type}{L n dn:Nat}(hn:dn+5<=n)(hL:2^60<=L){I:Int->Prop}{gl:Int->Bool}{nf gf:FuncId}{caps gcaps:List D}{size:Nat}{nx:Int->Int->List Int}{gn:Int->Int->Nat}{ls ns:List Int}{ii:Nat}
  (kc_n:∀ {R:Type} {n id:Nat} {hq:H} {k:KA R} (x c:Int) (o:List Int),dn+4<=n->I x->0<=c->c<6->o.length<=4200000000->hq[id]? =some (.arr (ints o) 1 0)->aU env (aA env L n) hq nf (nI x::nI c::.sl id 0 0 o.length::caps.map A.d) k=k (.sl id (gn x c) 0 (o++nx x c).length) (hq.set id (.arr (ints (o++nx x c)) 1 (gn x c))))
  (kc_g:∀ {R:Type} {n:Nat} {hq:H} {k:KA R} (x:Int),2<=n->I x->aU env (aA env L n) hq gf (nI x::gcaps.map A.d) k=k (.d (.bool (gl x))) hq)
  (hr:∀x,I x->0<=x/\x<size) (hsz:size<=1000000) (hI:∀x∈ns,I x) (hx:∀x c,I x->0<=c->c<6->∀y∈nx x c,I y) (hw:∀x c,(nx x c).length<=4096) (hls:∀c∈ls,0<=c/\c<=5) (hll:ls.length<=6) (hnl:ns.length<=size) {k:KE R}:∀(j q m:Nat) (seen:List Bool) (st:List PStep) (sn:Nat) (hi:q+j=ls.length) (hm:j<m) (hg:PGood I size seen st) (htr:Tree st) (hii:ii<st.length) (hns:(st.getD ii default).ns=ns) (hsn:sn=st.length),
  aV env (aA env L n) L 0 (W16 (W2 [2])) Bz3 (jC 1) (U2 (Z2 (U4 (U2 (Z2 (U1 (Z2 (Z1 (U16 (U1 (Z2 (Z1 (U16 (U8 (U2 (U1 ([]))))))))))))))))) m (Y2 (.d (.ivs ls.length (ints ls))::.d (.fn nf caps)::Y4 (Y2 (.d (.str [])::.d (.bool false)::Y1 (.ptr 0 0 0::.clo 210 [.ptr 1 0 0,.ptr 2 0 0,.ptr 0 0 0]::nI ii::Y16 (Y1 (.d (.ivs ls.length (ints ls))::nI (ls.length)::nI q::Y16 (Y8 (Y2 (Y1 ([]))))))))))) [.box [.sl 3 0 0 sn],.box [.sl 4 0 0 size],.box [.d (.fn gf gcaps)],.arr (cA st) 3 0,.arr (dI seen) 1 0] k
  =if(ltG nx gl ns ii (ls.drop q) (seen,st)).1=true then
    k .ret (Y2 (.d (.ivs ls.length (ints ls))::.d (.fn nf caps)::Y4 (Y2 (.d (.str ((TF (ltG nx gl ns ii (ls.drop q) (seen,st)).2.2)))::.d (.bool true)::Y1 (.ptr 0 0 0::.clo 210 [.ptr 1 0 0,.ptr 2 0 0,.ptr 0 0 0]::nI ii::Y16 (Y1 (.d (.ivs ls.length (ints ls))::nI (ls.length)::nI ((q+ltI nx gl ns ii (ls.drop q) (seen,st):Nat):Int)::Y16 (Y8 (Y2 (Y1 ([]))))))))))) [.box [.sl 3 0 0 (ltG nx gl ns ii (ls.drop q) (seen,st)).2.2.length],.box [.sl 4 0 0 size],.box [.d (.fn gf gcaps)],.arr (cA (ltG nx gl ns ii (ls.drop q) (seen,st)).2.2) 3 0,.arr (dI (ltG nx gl ns ii (ls.drop q) (seen,st)).2.1) 1 0]
   else k (.exit 2) (Y2 (.d (.ivs ls.length (ints ls))::.d (.fn nf caps)::Y4 (Y2 (.d (.str [])::.d (.bool false)::Y1 (.ptr 0 0 0::.clo 210 [.ptr 1 0 0,.ptr 2 0 0,.ptr 0 0 0]::nI ii::Y16 (Y1 (.d (.ivs ls.length (ints ls))::nI (ls.length)::nI (ls.length)::Y16 (Y8 (Y2 (Y1 ([]))))))))))) [.box [.sl 3 0 0 (ltG nx gl ns ii (ls.drop q) (seen,st)).2.2.length],.box [.sl 4 0 0 size],.box [.d (.fn gf gcaps)],.arr (cA (ltG nx gl ns ii (ls.drop q) (seen,st)).2.2) 3 0,.arr (dI (ltG nx gl ns ii (ls.drop q) (seen,st)).2.1) 1 0]:=by
 intro j
 induction j with
 |zero=>
  intro q m seen st sn hi hm hg htr hii hns hsn;obtain _|m:=m;omega;obtain rfl:q=ls.length:=om;subst hsn
  simp-implicitDefEqProofs (maxSteps:=9^7) (disch:=try exact Dz) only[↓DN,↓kRet,UP,simprocAttr,Al,rF,qG,Tryz.f152];simp only[Cg,ltG,Aj,if_false]
 |succ j ih=>
  intro q m seen st sn hi hm hg htr hii hns hsn;obtain _|m:=m;omega;subst hsn;have hc:(q:Int)<ls.length:=om;have hk:q<ls.length:=om;have hmem:ls.getD q 0∈ls:=by rw[Ab,Ae hk];exact Bd hk
  obtain⟨c0,c5⟩:=hls _ hmem;have c6:ls.getD q 0<6:=om;have hiI:(ii:Int)<st.length:=om;have hroom:=hg.room;have hstl:st.length<=4294967290:=om;rw[bM hk (d:=0)]
  have hI2:∀y∈flat nx ns (ls.getD q 0),I y:=by
   intro y hy;obtain⟨x,h1,h2⟩:=Du.1 hy;exact hx x (ls.getD q 0) (hI x h1) c0 c6 y h2
  have hfl:=aFj (c:=ls.getD q 0) hw ns;have hfl2:(flat nx ns (ls.getD q 0)).length<=4294967290:=om;obtain⟨g1,g2,g3⟩:=J8 (gl:=gl) hg hI2 hr (ii:Int) (ls.getD q 0);have htr2:Tree (addP st ii (ls.getD q 0) (visG gl (flat nx ns (ls.getD q 0)) seen [] false).2.1):=aE8 htr hii ⟨c0,c5⟩;have hlen2:=aFY (st:=st) (p:=(ii:Int)) (l:=ls.getD q 0) (f:=(visG gl (flat nx ns (ls.getD q 0)) seen [] false).2.1);have ih':=ih (q+1) m (visG gl (flat nx ns (ls.getD q 0)) seen [] false).1 (addP st ii (ls.getD q 0) (visG gl (flat nx ns (ls.getD q 0)) seen [] false).2.1) _ om om g1 htr2 om (by rw[aMY hii];exact hns) rfl;have e4:((q+1:Nat):Int)=(q:Int)+1:=om;rw[e4]at ih';have loop_c:=fun {R:Type} {n:Nat} (hn:dn+4<=n) {k:KE R}=> @aJq R L n dn hn hL I nf caps (.fn gf gcaps) size nx gn ls ns (cA st) seen st.length ii q (ls.getD q 0) (fun {R n id hq k}=>kc_n) hI hw c0 c6 om k ns.length 0 L [] 0 om om sm rfl;simp only[Ay,Am,i7,Av]at loop_c;have kc_v:=fun {R n k} hn=> @aOU R L n k hn hL I gl gf gcaps size (ii:Int) (ls.getD q 0) (flat nx ns (ls.getD q 0)) (fun {R n hq k}=>kc_g) hI2 hr om hfl2 seen hg.len st hstl;have hroom2:=g1.room;have kl_w:=@aEg L _ htr2 om om hL;simp only[ltG,ltI];clear ih hmem g1 g2 g3 hg hI hI2 hx hw hls hr kc_n kc_g hroom2;generalize flat nx ns (ls.getD q 0)=fm at *;generalize visG gl fm seen [] false=v at *;obtain⟨v1,v2,v3⟩:=v;simp only at ih' kc_v kl_w|-
  cases v3 with
  |true=>
   simp-implicitDefEqProofs (maxSteps:=9^7) (disch:=try exact Dz) only[↓DN,↓kAsg,↓kRet,UP,simprocAttr,↓YO,PE,hc,hiI,hns,↓loop_c,↓kc_v,↓kl_w,rF,qG,Tryz.f152]
  |false=>
   simp only[Aj,if_false];generalize ltI nx gl ns (ii:Int) (ls.drop (q+1)) (v1,addP st ii (ls.getD q 0) v2)=T at *;rw[show q+(T+1)=q+1+T by omega]
   simp-implicitDefEqProofs (maxSteps:=9^7) (disch:=try exact Dz) only[↓DN,↓kAsg,↓kRet,UP,simprocAttr,PE,hc,hiI,hns,↓loop_c,↓kc_v,↓ih',rF,qG,Tryz.f152]
theorem P6{nx:Int->Int->List Int}{gl:Int->Bool}{ns:List Int}{i:Nat}:∀(ls:List Int) (hls:∀c∈ls,0<=c/\c<=5) (seen:List Bool) (st:List PStep),Tree st->i<st.length->Tree (ltG nx gl ns i ls (seen,st)).2.2
 | [],_,_,_,h,_=>h
 |l::ls,hls,seen,st,h,hi=>by
  have h2:Tree (addP st i l (visG gl (flat nx ns l) seen [] false).2.1):=aE8 h hi (hls l Bl);unfold ltG
  split
  ·exact h2
  ·exact P6 ls (fun c hc=>hls c (Bi _ hc)) _ _ h2 (Da hi aFY)
theorem aJA{R:Type}{L n dn:Nat}(hn:dn+6<=n)(hL:2^60<=L){I:Int->Prop}{gl:Int->Bool}{nf gf:FuncId}{caps gcaps:List D}{size:Nat}{nx:Int->Int->List Int}{gn:Int->Int->Nat}{ls:List Int}
  (kc_n:∀ {R:Type} {n id:Nat} {hq:H} {k:KA R} (x c:Int) (o:List Int),dn+4<=n->I x->0<=c->c<6->o.length<=4200000000->hq[id]? =some (.arr (ints o) 1 0)->aU env (aA env L n) hq nf (nI x::nI c::.sl id 0 0 o.length::caps.map A.d) k=k (.sl id (gn x c) 0 (o++nx x c).length) (hq.set id (.arr (ints (o++nx x c)) 1 (gn x c))))
  (kc_g:∀ {R:Type} {n:Nat} {hq:H} {k:KA R} (x:Int),2<=n->I x->aU env (aA env L n) hq gf (nI x::gcaps.map A.d) k=k (.d (.bool (gl x))) hq)
  (hr:∀x,I x->0<=x/\x<size) (hsz:size<=1000000) (hx:∀x c,I x->0<=c->c<6->∀y∈nx x c,I y) (hw:∀x c,(nx x c).length<=4096) (hls:∀c∈ls,0<=c/\c<=5) (hll:ls.length<=6) {k:KE R}:∀(j i m:Nat) (seen:List Bool) (st:List PStep) (sn:Nat) (hi:st.length+hM seen<=i+j) (hi2:i<=st.length) (hm:j<m) (hg:PGood I size seen st) (htr:Tree st) (hsn:sn=st.length),
  aV env (aA env L n) L 0 (W16 (W2 [2])) Bz3 (jC 0) (U2 (Z2 (U4 (U2 (Z2 (U1 (Z2 (Z1 (U32 (U8 (U4 (U2 (U1 ([])))))))))))))) m (Y2 (.d (.ivs ls.length (ints ls))::.d (.fn nf caps)::Y4 (Y2 (.d (.str [])::.d (.bool false)::Y1 (.ptr 0 0 0::.clo 210 [.ptr 1 0 0,.ptr 2 0 0,.ptr 0 0 0]::nI i::Y32 (Y8 (Y4 (Y2 (Y1 ([])))))))))) [.box [.sl 3 0 0 sn],.box [.sl 4 0 0 size],.box [.d (.fn gf gcaps)],.arr (cA st) 3 0,.arr (dI seen) 1 0] k
  =if(outG nx gl ls j i (seen,st)).1=true then
    k .ret (Y2 (.d (.ivs ls.length (ints ls))::.d (.fn nf caps)::Y4 (Y2 (.d (.str ((TF (outG nx gl ls j i (seen,st)).2.2)))::.d (.bool true)::Y1 (.ptr 0 0 0::.clo 210 [.ptr 1 0 0,.ptr 2 0 0,.ptr 0 0 0]::nI ((outI nx gl ls j i (seen,st):Nat):Int)::Y32 (Y8 (Y4 (Y2 (Y1 ([])))))))))) [.box [.sl 3 0 0 (outG nx gl ls j i (seen,st)).2.2.length],.box [.sl 4 0 0 size],.box [.d (.fn gf gcaps)],.arr (cA (outG nx gl ls j i (seen,st)).2.2) 3 0,.arr (dI (outG nx gl ls j i (seen,st)).2.1) 1 0]
   else k (.exit 0) (Y2 (.d (.ivs ls.length (ints ls))::.d (.fn nf caps)::Y4 (Y2 (.d (.str [])::.d (.bool false)::Y1 (.ptr 0 0 0::.clo 210 [.ptr 1 0 0,.ptr 2 0 0,.ptr 0 0 0]::nI ((outI nx gl ls j i (seen,st):Nat):Int)::Y32 (Y8 (Y4 (Y2 (Y1 ([])))))))))) [.box [.sl 3 0 0 (outG nx gl ls j i (seen,st)).2.2.length],.box [.sl 4 0 0 size],.box [.d (.fn gf gcaps)],.arr (cA (outG nx gl ls j i (seen,st)).2.2) 3 0,.arr (dI (outG nx gl ls j i (seen,st)).2.1) 1 0]:=by
 intro j
 induction j with
 |zero=>
  intro i m seen st sn hi hi2 hm hg htr hsn;obtain _|m:=m;omega;obtain rfl:i=st.length:=om;subst hsn;simp only[outG,outI,Aj,if_false]
  simp-implicitDefEqProofs (maxSteps:=9^7) (disch:=try exact Dz) only[↓DN,↓kRet,UP,simprocAttr,Al,lT,lO,Tryz.f152]
 |succ j ih=>
  intro i m seen st sn hi hi2 hm hg htr hsn;obtain _|m:=m;omega;subst hsn
  by_cases hc:i<st.length
  ·have hci:(i:Int)<st.length:=om;have hroom:=hg.room;have hmem:st.getD i default∈st:=by rw[Ab,Ae hc];exact Bd hc
   have hI:=hg.node _ hmem;have hnl:=hg.wide _ hmem;obtain⟨k1,k2,k3⟩:=OF (gl:=gl) (nx:=nx) (p:=(i:Int)) hr hI ls (seen,st) (fun x c h1 h2=>hx x c h1 (hls c h2).1 (by have:=(hls c h2).2;omega)) hg;have ktr:=P6 (gl:=gl) (nx:=nx) (ns:=(st.getD i default).ns) ls hls seen st htr hc;have loop_b:=fun {R:Type} {n:Nat} (hn:dn+5<=n) {k:KE R}=> @aJQ R L n dn hn hL I gl nf gf caps gcaps size nx gn ls (st.getD i default).ns i (fun {R n id hq k}=>kc_n) (fun {R n hq k}=>kc_g) hr hsz hI hx hw hls hll hnl k ls.length 0 L seen st st.length om om hg htr hc rfl rfl;simp only[Ay,Av,Af]at loop_b;have ih':=ih (i+1) m (ltG nx gl (st.getD i default).ns i ls (seen,st)).2.1 (ltG nx gl (st.getD i default).ns i ls (seen,st)).2.2 _ (by have:(ltG nx gl (st.getD i default).ns i ls (seen,st)).2.2.length+hM (ltG nx gl (st.getD i default).ns i ls (seen,st)).2.1<=st.length+hM seen:=k2;omega) (by have:st.length<=(ltG nx gl (st.getD i default).ns i ls (seen,st)).2.2.length:=k3;omega) om k1 ktr rfl;have e4:((i+1:Nat):Int)=(i:Int)+1:=om;rw[e4]at ih';simp only[outG,outI,hc,if_true];clear ih hmem k1 k2 k3 ktr hg hI hx hw hls hr kc_n kc_g hnl;generalize ltI nx gl (st.getD i default).ns (i:Int) ls (seen,st)=T at *;generalize ltG nx gl (st.getD i default).ns (i:Int) ls (seen,st)=w at *;obtain⟨w0,w1,w2⟩:=w;simp only at ih' loop_b|-;have hll3:ls.length<=4294967290:=om
   cases w0 with
   |true=>
    simp only[if_true]at loop_b
    simp-implicitDefEqProofs (maxSteps:=9^7) (disch:=try exact Dz) only[↓DN,↓kRet,UP,simprocAttr,hci,↓loop_b,lT,lO,Tryz.f152]
   |false=>
    simp only[Aj,if_false]at loop_b|-
    simp-implicitDefEqProofs (maxSteps:=9^7) (disch:=try exact Dz) only[↓DN,↓kRet,UP,simprocAttr,hci,↓loop_b,↓ih',lT,lO,Tryz.f152]
  ·obtain rfl:i=st.length:=om;simp only[outG,outI,hc,Aj,if_false]
   simp-implicitDefEqProofs (maxSteps:=9^7) (disch:=try exact Dz) only[↓DN,↓kRet,UP,simprocAttr,Al,lT,lO,Tryz.f152]
theorem NS{n:Int}{h:H}(h0:0<=n)(h1:n<=4294967296):iD env.P h 24 n n=some (.sl h.length 0 0 n.toNat,h++[.arr (dI (List.replicate n.toNat false)) 1 0]):=by
 have hm:n<=(bF:Nat):=by unfold bF;omega
 have he:cR env.P 24=some 4:=kr;have hz:dA env.P 4=some (.d (.bool false)):=kr;have hok:eG env.P 4=true:=kr;have hc:env.P.cellsOf 4=1:=kr;simp only[iD,he,hz,aT,wW,Ax,hok,h0,hm,hc,Int.le_refl,and_self,if_true,dI,List.map_replicate,List.flatten_replicate_singleton]
theorem aBW{L n dn:Nat}(hn:dn+7<=n)(hL:2^60<=L){I:Int->Prop}{gl:Int->Bool}{nf gf:FuncId}{caps gcaps:List D}{size:Nat}{nx:Int->Int->List Int}{gn:Int->Int->Nat}{ls ns:List Int}
  (kc_n:∀ {R:Type} {n id:Nat} {hq:H} {k:KA R} (x c:Int) (o:List Int),dn+4<=n->I x->0<=c->c<6->o.length<=4200000000->hq[id]? =some (.arr (ints o) 1 0)->aU env (aA env L n) hq nf (nI x::nI c::.sl id 0 0 o.length::caps.map A.d) k=k (.sl id (gn x c) 0 (o++nx x c).length) (hq.set id (.arr (ints (o++nx x c)) 1 (gn x c))))
  (kc_g:∀ {R:Type} {n:Nat} {hq:H} {k:KA R} (x:Int),2<=n->I x->aU env (aA env L n) hq gf (nI x::gcaps.map A.d) k=k (.d (.bool (gl x))) hq)
  (hr:∀x,I x->0<=x/\x<size) (hsz:size<=1000000) (hI:∀x∈ns,I x) (hx:∀x c,I x->0<=c->c<6->∀y∈nx x c,I y) (hw:∀x c,(nx x c).length<=4096) (hls:∀c∈ls,0<=c/\c<=5) (hll:ls.length<=6) (hne:ns≠[]) (hnl:ns.length<=size):
  aA env L n 152 [nI size,.d (.ivs ns.length (ints ns)),.d (.ivs ls.length (ints ls)),.d (.fn nf caps),.d (.fn gf gcaps)] []=some (.tup [.d (.str (txt (MX nx gl ls ns size).1)),.d (.bool (MX nx gl ls ns size).2)],[]):=by
 have hs0:(0:Int)<=size:=om;have hs1:(size:Int)<=4294967296:=om;have kc_v:=fun {R:Type} {n:Nat} {k:KA R} {p l:Int} (hn:4<=n)=> @aOY R L n k hn hL I gl gf gcaps size p l ns (fun {R n hq k}=>kc_g) hI hr om om hne;have hu:hM (List.replicate size false)=size:=by simp[hM]
 have hg0:PGood I size (List.replicate size false) []:=⟨by simp,by simp,by rw[hu];simp,by simp⟩
 obtain⟨g1,g2,g3⟩:=J8 (gl:=gl) hg0 hI hr (-1) 0;have hpos:=aGU (size:=size) hne;rw[<-(xT gl ns (List.replicate size false) [] false).2]at hpos;unfold MX;generalize visG gl ns (List.replicate size false) [] false=r at *;obtain⟨r0,r1,r2⟩:=r;simp only at g1 g2 g3 hpos kc_v|-
 have ha:addP [] (-1) 0 r1=[⟨-1,0,r1⟩]:=by
  unfold addP;rw[if_neg (Eb.1 hpos)];rfl
 rw[ha]at g1 g2
 have htr:Tree [⟨-1,0,r1⟩]:=by
  intro k hk;obtain rfl:k=0:=by simpa using hk
  exact⟨by show(-1:Int)<_;omega,by show(0:Int)<=0/\(0:Int)<=5;decide⟩
 have loop_a:=fun {R:Type} {n:Nat} (hn:dn+6<=n) {k:KE R}=> @aJA R L n dn hn hL I gl nf gf caps gcaps size nx gn ls (fun {R n id hq k}=>kc_n) (fun {R n hq k}=>kc_g) hr hsz hx hw hls hll k (size+1) 0 L r0 [⟨-1,0,r1⟩] 1 (by rw[hu]at g2;simp only[Aa,Af]at g2;omega) sm om g1 htr rfl;simp only[Av]at loop_a;have ee:(cA [⟨-1,0,r1⟩])=[.int .i64 (-1),.int .i64 0,.ivs r1.length (ints r1)]:=rfl;rw[ha];clear g1 g2 g3 hg0 hI hx hw hls hr kc_n kc_g htr
 cases r2 with
 |true=>
  obtain _|n:=n;omega
  simp-implicitDefEqProofs (maxSteps:=9^7) (disch:=try exact Dz) only[↓DN,↓kAsg,↓kRet,UP,simprocAttr,↓NS,↓kc_v,zU,t8,Tryz.f152]<;>rfl
 |false=>
  simp only[Aj,if_false];generalize outI nx gl ls (size+1) 0 (r0,[⟨-1,0,r1⟩])=T at *;generalize outG nx gl ls (size+1) 0 (r0,[⟨-1,0,r1⟩])=w at *;obtain⟨w0,w1,w2⟩:=w;simp only at loop_a|-
  cases w0 with
  |true=>
   simp only[if_true]at loop_a|-;obtain _|n:=n;omega
   simp-implicitDefEqProofs (maxSteps:=9^7) (disch:=try exact Dz) only[↓DN,↓kAsg,↓kRet,UP,simprocAttr,↓NS,↓kc_v,↓loop_a,zU,t8,Tryz.f152]<;>rfl
  |false=>
   simp only[Aj,if_false]at loop_a|-;obtain _|n:=n;omega
   simp-implicitDefEqProofs (maxSteps:=9^7) (disch:=try exact Dz) only[↓DN,↓kAsg,↓kRet,UP,simprocAttr,↓NS,↓kc_v,↓loop_a,zU,t8,Tryz.f152]<;>rfl
theorem nN{a:Aut}(h:AOK a):bD a.nx/\vJ (aG a.al).length a.nx/\1<=a.nx.length/\a.nx.length<=12/\a.ac.length=a.nx.length:=by
 obtain⟨a1,a2,a3,a4⟩:=aLC h;have aw:=aAd h;exact⟨⟨by omega,fun r hr=>by have:=aw r hr;have:=dF a.al;omega⟩,aw,a1,a2,a3⟩
def tabP(a:Aut):D:=.iptr [.ivs a.nx.length (ints (o9 a.al a.nx))]
def autP(a:Aut):D:=.iptr [.int .i64 a.al,.ivs a.nx.length (aN a.nx),.ivs a.ac.length (aK a.ac)]
theorem aME{p r:List Int}{x:Int}:(p++x::r).getD p.length 0=x:=by simp[Ab]
theorem aOQ{p r:List Int}{x v:Int}:(p++x::r).set p.length v=p++v::r:=sm
theorem MU:∀(ms:List Mb),totR ms=ms.foldr (fun m z=>z*m.1) 1
 | []=>rfl
 |m::ms=>by rw[totR,MU ms,List.foldr_cons]
theorem aJz{P:List Sys}{l:Int}:totR (P.reverse.map (sysI l))=cL P:=by
 rw[MU,List.map_reverse,List.foldr_reverse,List.foldl_map];rfl
theorem aGw:∀ {P:List Sys} {z:Int} (_:0<=z) (_:∀s∈P,cF s=true),0<=P.foldl (fun z s=>z*s.st) z/\P.foldl (fun z s=>z*s.st) z<=16^P.length*z
 | [],z,hz,_=>by simpa using hz
 |s::P,z,hz,h=>by
  obtain⟨_,s1,s2,_,_⟩:=jP.1 (h s Bl);have h0:=Cm hz (show 0<=s.st by omega);obtain⟨h1,h2⟩:=aGw h0 fun s hs=>h s (Bi _ hs);rw[Ct,Ac,Int.pow_succ,Int.mul_assoc];refine⟨h1,Cy h2 (Do ?_ (Int.pow_nonneg om))⟩;rw[Int.mul_comm];exact Cq s2 hz
theorem JJ{P:List Sys}(h3:P.length<=3)(hs:∀s∈P,cF s=true):0<=cL P/\cL P<=4096:=by
 obtain⟨h1,h2⟩:=aGw (P:=P) (z:=1) om hs;refine⟨h1,Cy h2 ?_⟩
 rcases(show P.length=0\/P.length=1\/P.length=2\/P.length=3 by omega)with h|h|h|h<;>rw[h]<;>decide
theorem aOv{P:List Sys}{l v:Int}(hs:∀s∈P,cF s=true)(hl:0<=l/\l<6)(hv:0<=v):∀x∈pnx (P.reverse.map (sysI l)) v,0<=x/\x<cL P:=by
 intro x hx;rw[<-aJz (l:=l)];refine aBY (fun m hm=> ?_) hv x (aBV.1 hx);obtain⟨s,hs2,rfl⟩:=Bv.1 hm;have hso:=hs s (Dn.1 hs2);obtain⟨_,s1,s2,_,_⟩:=jP.1 hso;exact⟨by show 0<s.st;omega,fun q h0 h1=>aGj hso hl ⟨h0,h1⟩⟩
def nxBk(P:List Sys)(a b:Aut)(x c:Int):List Int:=(pnx (P.reverse.map (sysI c)) ((x.tdiv b.nx.length).tdiv a.nx.length)).map fun y=>y*a.nx.length*b.nx.length+(goI a.al a.nx ((x.tdiv b.nx.length).tmod a.nx.length) c*b.nx.length+goI b.al b.nx (x.tmod b.nx.length) c)
def inBk(P:List Sys)(a b:Aut)(x:Int):Prop:=0<=x/\x<cL P*a.nx.length*b.nx.length
def parP(P:List Sys):D:=.iptr [.ivs P.length (sysD P),.ivs P.length (mvsD P)]
theorem aM4{R:Type}{L n g:Nat}(hn:1<=n){na nb z:Int}(hna:0<=na/\na<=12)(hnb:0<=nb/\nb<=12)(hz:0<=z/\z<=1000){k:KE R}:∀(j:Nat) (i:Int) (m:Nat) (p r:List Int) (len:Nat) (hi:i=p.length) (hj:r.length=j) (hm:j<m) (hlen:(p++r).length=len) (hb:len<=4294967296) (hx:∀x∈r,0<=x/\x<4096),
  aV env (aA env L n) L 1 [] Bz24 (pP 0) (U2 (Z1 (U1 (Z2 (U4 (U1 (Z2 (U1 (Z1 (U32 (U16 (U4 (U1 ([])))))))))))))) m (Y2 (.sl 0 g 0 len::Y1 (.d (.iptr [.int .i64 nb])::.d (.iptr [.int .i64 na])::Y4 (Y1 (.d .nils::nI z::Y1 (nI i::Y32 (Y16 (Y4 (Y1 ([])))))))))) [.arr (ints (p++r)) 1 g] k
  =k (.exit 0) (Y2 (.sl 0 g 0 len::Y1 (.d (.iptr [.int .i64 nb])::.d (.iptr [.int .i64 na])::Y4 (Y1 (.d .nils::nI z::Y1 (nI len::Y32 (Y16 (Y4 (Y1 ([])))))))))) [.arr (ints (p++r.map fun x=>x*na*nb+z)) 1 g]:=by
 intro j
 induction j with
 |zero=>
  intro i m p r len hi hj hm hlen hb hx;obtain _|m:=m;omega;obtain rfl:=Bw.1 hj;rw[Ai]at hlen;subst hi;subst hlen;simp only[Ai,Ak]
  simp-implicitDefEqProofs (maxSteps:=9^7) (disch:=try exact Dz) only[↓DN,↓kRet,UP,simprocAttr,Al,sP,oC,Tryz.f149]
 |succ j ih=>
  intro i m p r len hi hj hm hlen hb hx;obtain _|m:=m;omega;obtain _|⟨x,r⟩:=r
  ·simp at hj
  obtain⟨x0,x1⟩:=hx x Bl;have hc:(p.length:Int)<len:=by simp at hlen;omega
  have hk:p.length<(p++x::r).length:=sm;have hi0:(0:Int)<=p.length:=om;have a0:0<=x*na:=Cm x0 hna.1;have a1:x*na<=x*12:=Do hna.2 x0;have b0:0<=x*na*nb:=Cm a0 hnb.1;have b1:x*na*nb<=x*na*12:=Do hnb.2 a0;have w1:IntKind.i64.wrap (x*na)=x*na:=dW om om;have w2:IntKind.i64.wrap (x*na*nb)=x*na*nb:=dW om om;have w3:IntKind.i64.wrap (x*na*nb+z)=x*na*nb+z:=dW om om;have ih':=ih ((p.length:Int)+1) m (p++[x*na*nb+z]) r len sm (by simpa using hj) om (by simpa using hlen) hb (fun y hy=>hx y (Bi _ hy));subst hi;rw[Ag];simp only[Ao,Ek]at ih';have hs:=@aOQ p r x (x*na*nb+z);clear ih hx
  simp-implicitDefEqProofs (maxSteps:=9^7) (disch:=try exact Dz) only[↓DN,↓kRet,UP,simprocAttr,hc,hi0,aME,hs,w1,w2,w3,↓EM,↓ih',sP,oC,Tryz.f149]
theorem aPU{R:Type}{L n id:Nat}{hq:H}{k:KA R}(hn:4<=n)(hL:2^60<=L){P:List Sys}(hP:cP P)(hv:bR P=true){v l:Int}(hl:0<=l/\l<6)(hv0:0<=v)(hv1:v<=4294967296)(o:List Int)(ho:o.length<=4200000000)(hid:hq[id]? =some (.arr (ints o) 1 0)):
  aU env (aA env L n) hq 150 [.agg [.d (.ivs P.length (sysD P)),.d (.ivs P.length (mvsD P))],nI v,nI l,.sl id 0 0 o.length] k
  =k (.sl id 1 0 (o++pnx (P.reverse.map (sysI l)) v).length) (hq.set id (.arr (ints (o++pnx (P.reverse.map (sysI l)) v)) 1 1)):=by
 refine ZU hid (by simp[idsL,idsA]) s6 ?_;have hpl:aH [id] id=some 0:=by simp[aH]
 simp only[aE,mapA,hpl];exact aBo hn hL hP hv hl hv0 hv1 o ho
theorem PP{L n:Nat}(hn:5<=n)(hL:2^60<=L){P:List Sys}(hP:cP P)(hv:bR P=true){a b:Aut}(ha:AOK a)(hb:AOK b){x c:Int}(hx:inBk P a b x)(hc0:0<=c)(hc6:c<6)(o:List Int)(ho:o.length<=4200000000):
  aA env L n 149 [nI x,nI c,.sl 0 0 0 o.length,.d (tabP a),.d (.iptr [.int .i64 b.nx.length]),.d (.iptr [.int .i64 a.nx.length]),.d (tabP b),.d (parP P)] [.arr (ints o) 1 0]=some (.sl 0 1 0 (o++nxBk P a b x c).length,[.arr (ints (o++nxBk P a b x c)) 1 1]):=by
 obtain⟨h3,h1,hs⟩:=eT hv;obtain⟨sz0,sz1⟩:=JJ h3 hs;obtain⟨sa,wa,a1,a2,a3⟩:=nN ha;obtain⟨sb,wb,b1,b2,b3⟩:=nN hb;obtain⟨p,q⟩:=NZ (na:=cL P*a.nx.length) (nb:=b.nx.length) om hx.1 hx.2;obtain⟨p2,r⟩:=NZ (na:=cL P) (nb:=a.nx.length) om p.1 p.2;have ga:=L4 ha r.1 r.2 hc0 hc6;have gb:=L4 hb q.1 q.2 hc0 hc6;have hla:=wY a.al a.nx;have hlb:=wY b.al b.nx;have hta:=aIz (al:=a.al) r.1 r.2 hc0 hc6;have htb:=aIz (al:=b.al) q.1 q.2 hc0 hc6;rw[Bg]at hta htb;have hin:=aIQ ga gb;have hm0:0<=goI a.al a.nx ((x.tdiv b.nx.length).tmod a.nx.length) c*b.nx.length:=Cm ga.1 om
 have hprod:(a.nx.length:Int)*b.nx.length<=144:=by
  have h1:(a.nx.length:Int)*b.nx.length<=12*b.nx.length:=Cq om om;omega
 have xs:x<=4294967296:=by
  have t1:cL P*a.nx.length*b.nx.length<=4096*144:=by
   rw[Int.mul_assoc];exact Cy (Cq sz1 (Cm om om)) (Do hprod om)
  have:=hx.2;omega
 have hb0:¬(b.nx.length:Int)=0:=om;have ha0:¬(a.nx.length:Int)=0:=om;have d1:((x.tdiv b.nx.length).tmod a.nx.length).toNat*6<=a.nx.length*6:=om;have d2:(x.tmod b.nx.length).toNat*6<=b.nx.length*6:=om;have d3:c.toNat<a.nx.length*6-((x.tdiv b.nx.length).tmod a.nx.length).toNat*6:=om;have d4:c.toNat<b.nx.length*6-(x.tmod b.nx.length).toNat*6:=om
 have v1:(x.tdiv b.nx.length).tdiv a.nx.length<=4294967296:=by
  have e1:x.tdiv b.nx.length<=x:=Ec _ hx.1;have e2:(x.tdiv b.nx.length).tdiv a.nx.length<=x.tdiv b.nx.length:=Ec _ p.1;omega
 have wq1:IntKind.i64.wrap (x.tdiv b.nx.length)=x.tdiv b.nx.length:=by
  have e1:x.tdiv b.nx.length<=x:=Ec _ hx.1;exact dW om om
 have wq2:IntKind.i64.wrap ((x.tdiv b.nx.length).tdiv a.nx.length)=(x.tdiv b.nx.length).tdiv a.nx.length:=dW om om;have kc_p:=fun {R:Type} {n id:Nat} {hq:H} {k:KA R} (hn:4<=n) (hid:hq[id]? =some (.arr (ints o) 1 0))=> @aPU R L n id hq k hn hL P hP hv _ c ⟨hc0,hc6⟩ p2.1 v1 o ho hid;have wl:=aBx (l:=c) (v:=(x.tdiv b.nx.length).tdiv a.nx.length) h3 hs;have wr:=aOv (l:=c) hs ⟨hc0,hc6⟩ p2.1;unfold nxBk tabP parP;generalize hga:goI a.al a.nx ((x.tdiv b.nx.length).tmod a.nx.length) c=g1 at *;generalize hgb:goI b.al b.nx (x.tmod b.nx.length) c=g2 at *;generalize pnx (P.reverse.map (sysI c)) ((x.tdiv b.nx.length).tdiv a.nx.length)=w at *;have loop_a:=fun {R n k} hn=> @aM4 R L n 1 hn a.nx.length b.nx.length (g1*b.nx.length+g2) ⟨by omega,by omega⟩ ⟨by omega,by omega⟩ om k w.length o.length L o w (o++w).length rfl rfl om rfl (by rw[Ah];omega) (fun x hx=>by have:=wr x hx;omega);obtain⟨x0,x1⟩:=hx;obtain⟨p0,p1⟩:=p;obtain⟨q0,q1⟩:=q;obtain⟨r0,r1⟩:=r;clear ha hb sa sb wa wb x1 hP hv hs hga hgb wr p1;simp only[Ah]at loop_a kc_p;obtain _|n:=n;omega
 simp-implicitDefEqProofs (maxSteps:=9^7) (disch:=try exact Dz) only[↓DN,↓kAsg,↓kRet,UP,simprocAttr,hla,hlb,hta,htb,wq1,wq2,q0,q1,r0,r1,↓kc_p,↓loop_a,Ba,Bg,Aw,PQ,AX,Tryz.f149]
def glBk(a b:Aut)(x:Int):Bool:=a.ac.getD ((x.tdiv b.nx.length).tmod a.nx.length).toNat false&& !b.ac.getD (x.tmod b.nx.length).toNat false
theorem PM{L n:Nat}(hn:1<=n){P:List Sys}(hv:bR P=true){a b:Aut}(ha:AOK a)(hb:AOK b){rs:List D}{x:Int}(hx:inBk P a b x):
  aA env L n 151 [nI x,.d (.iptr [.iptr [.int .i64 a.al,.ivs a.nx.length rs,.ivs a.ac.length (aK a.ac)]]),.d (.iptr [.int .i64 b.nx.length]),.d (.iptr [.int .i64 a.nx.length]),.d (autP b)] []=some (.d (.bool (glBk a b x)),[]):=by
 obtain⟨h3,h1,hs⟩:=eT hv;obtain⟨sz0,sz1⟩:=JJ h3 hs;obtain⟨sa,wa,a1,a2,a3⟩:=nN ha;obtain⟨sb,wb,b1,b2,b3⟩:=nN hb;obtain⟨p,q⟩:=NZ (na:=cL P*a.nx.length) (nb:=b.nx.length) om hx.1 hx.2;obtain⟨p2,r⟩:=NZ (na:=cL P) (nb:=a.nx.length) om p.1 p.2
 have hprod:(a.nx.length:Int)*b.nx.length<=144:=by
  have h1:(a.nx.length:Int)*b.nx.length<=12*b.nx.length:=Cq om om;omega
 have xs:x<=4294967296:=by
  have t1:cL P*a.nx.length*b.nx.length<=4096*144:=by
   rw[Int.mul_assoc];exact Cy (Cq sz1 (Cm om om)) (Do hprod om)
  have:=hx.2;omega
 have hb0:¬(b.nx.length:Int)=0:=om;have ha0:¬(a.nx.length:Int)=0:=om
 have wq1:IntKind.i64.wrap (x.tdiv b.nx.length)=x.tdiv b.nx.length:=by
  have e1:x.tdiv b.nx.length<=x:=Ec _ hx.1;exact dW om om
 have e1:((x.tdiv b.nx.length).tmod a.nx.length).toNat<a.ac.length:=om;have e2:(x.tmod b.nx.length).toNat<b.ac.length:=om;have e3:(x.tdiv b.nx.length).tmod a.nx.length<(a.ac.length:Int):=om;have e4:x.tmod b.nx.length<(b.ac.length:Int):=om;obtain⟨x0,x1⟩:=hx;obtain⟨p0,p1⟩:=p;obtain⟨q0,q1⟩:=q;obtain⟨r0,r1⟩:=r;unfold glBk autP;clear ha hb sa sb wa wb x1 hv hs p1
 cases hA:a.ac.getD ((x.tdiv b.nx.length).tmod a.nx.length).toNat false
 ·obtain _|n:=n;omega
  simp-implicitDefEqProofs (maxSteps:=9^7) (disch:=try exact Dz) only[↓DN,↓kAsg,↓kRet,UP,simprocAttr,LA,hA,wq1,e3,r0,e1,yX,qP,Tryz.f151]
 ·obtain _|n:=n;omega
  simp-implicitDefEqProofs (maxSteps:=9^7) (disch:=try exact Dz) only[↓DN,↓kAsg,↓kRet,UP,simprocAttr,LA,hA,wq1,e3,q0,r0,e4,e1,e2,yX,qP,Tryz.f151]
section
variable{R:Type}{L n:Nat}
def cZ:Aut:=⟨0,[[]],[true]⟩
theorem aMr(hn:1<=n){k:KE R}:∀(j:Nat) (i:Int) (m:Nat) (t:List Int) (h0:0<=i) (hi:i+j=6) (hm:j<m) (ht:t.length=6),
  aV env (aA env L n) L 0 [] Bz1 (fG 1) Bz25 m (Y2 (.d .nils::.sl 0 0 0 1::.d (.ivs 0 [])::nI 0::.d .nils::Y8 (Y2 (Y1 (.d (.ivs 1 [.nils])::nI 1::nI 0::Y4 (nI i::Y16 (Y8 (Y4 ([]))))))))) [.arr (ints t) 6 0] k
  =k (.exit 2) (Y2 (.d .nils::.sl 0 0 0 1::.d (.ivs 0 [])::nI 0::.d .nils::Y8 (Y2 (Y1 (.d (.ivs 1 [.nils])::nI 1::nI 0::Y4 (nI 6::Y16 (Y8 (Y4 ([]))))))))) [.arr (ints (mR 0 j i.toNat t)) 6 0]:=by
 intro j
 induction j with
 |zero=>
  intro i m t h0 hi hm ht;obtain _|m:=m;omega;obtain rfl:i=6:=om
  simp-implicitDefEqProofs (maxSteps:=9^7) (disch:=try exact Dz) only[↓DN,↓kRet,UP,simprocAttr,Al,oM,oT,Tryz.f89]<;>rfl
 |succ j ih=>
  intro i m t h0 hi hm ht;obtain _|m:=m;omega;have hc:i<6:=om;have hk:i.toNat<t.length:=om;have e1:(i+1).toNat=i.toNat+1:=om
  simp-implicitDefEqProofs (maxSteps:=9^7) (disch:=try exact Dz) only[↓DN,↓kRet,UP,simprocAttr,hc,Cp,Nat.zero_mul,↓EM,↓ih,oM,oT,Tryz.f89];rw[e1];simp only[mR,Nat.zero_mul,Af,Av]
theorem aMe(hn:1<=n){k:KE R}{m:Nat}{t:List Int}(hm:0<m):
  aV env (aA env L n) L 0 [] Bz1 (fG 2) Bz21 m (Y2 (.d .nils::.sl 0 0 0 1::.d (.ivs 0 [])::nI 0::.d .nils::Y8 (Y2 (Y1 (.d (.ivs 1 [.nils])::nI 1::nI 0::Y4 (nI 6::Y8 (Y1 (.d (.ivs 0 [])::nI 0::nI 0::Y16 ([]))))))))) [.arr (ints t) 6 0] k
  =k (.exit 4) (Y2 (.d .nils::.sl 0 0 0 1::.d (.ivs 0 [])::nI 0::.d .nils::Y8 (Y2 (Y1 (.d (.ivs 1 [.nils])::nI 1::nI 0::Y4 (nI 6::Y8 (Y1 (.d (.ivs 0 [])::nI 0::nI 0::Y16 ([]))))))))) [.arr (ints t) 6 0]:=by
 obtain _|m:=m;omega
 simp-implicitDefEqProofs (maxSteps:=9^7) (disch:=try exact Dz) only[↓DN,↓kRet,UP,simprocAttr,Al,uR,uC,Tryz.f89]
theorem aMh(hn:1<=n){k:KE R}{m:Nat}{t:List Int}(hm:0<m):
  aV env (aA env L n) L 0 [] Bz1 (fG 0) Bz18 m (Y2 (.d .nils::.sl 0 0 0 1::.d (.ivs 0 [])::Y8 (Y4 (Y1 (.d (.ivs 1 [.nils])::nI 1::nI 1::Y32 (Y1 ([]))))))) [.arr (ints t) 6 0] k
  =k (.exit 0) (Y2 (.d .nils::.sl 0 0 0 1::.d (.ivs 0 [])::Y8 (Y4 (Y1 (.d (.ivs 1 [.nils])::nI 1::nI 1::Y32 (Y1 ([]))))))) [.arr (ints t) 6 0]:=by
 obtain _|m:=m;omega
 simp-implicitDefEqProofs (maxSteps:=9^7) (disch:=try exact Dz) only[↓DN,↓kRet,UP,simprocAttr,Al,nZ,oS,Tryz.f89]
theorem aNs(hL:2^60<=L)(hn:1<=n){k:KE R}{m:Nat}{t:List Int}(ht:t.length=6)(hm:1<m):
  aV env (aA env L n) L 0 [] Bz1 (fG 0) Bz18 m (Y2 (.d .nils::.sl 0 0 0 1::.d (.ivs 0 [])::Y8 (Y4 (Y1 (.d (.ivs 1 [.nils])::nI 1::nI 0::Y32 (Y1 ([]))))))) [.arr (ints t) 6 0] k
  =k (.exit 0) (Y2 (.d .nils::.sl 0 0 0 1::.d (.ivs 0 [])::Y8 (Y4 (Y1 (.d (.ivs 1 [.nils])::nI 1::nI 1::Y32 (Y1 ([]))))))) [.arr (ints (mR 0 6 0 t)) 6 0]:=by
 obtain _|m:=m;omega;have loop_a1:=fun {R:Type} {k:KE R}=> @aMr R L n hn k 6 0 L t om om om ht;have loop_a2:=fun {R:Type} {k:KE R} {t:List Int}=> @aMe R L n hn k L t om;have loop_a3:=fun {R:Type} {k:KE R} {t:List Int}=> @aMh R L n hn k m t om;simp only[Cp]at loop_a1
 simp-implicitDefEqProofs (maxSteps:=9^7) (disch:=try exact Dz) only[↓DN,↓kRet,UP,simprocAttr,↓loop_a1,↓loop_a2,↓loop_a3,nZ,oS,Tryz.f89]
theorem aBZ(hn:3<=n)(hL:2^60<=L):aA env L n 89 [.agg [nI 0,.d (.ivs 1 [.nils]),.d (.ivs 1 [.bool true])]] []=some (.d (.ivs 1 (ints (o9 0 [[]]))),[]):=by
 have hf:mR 0 6 0 [0,0,0,0,0,0]=[0,0,0,0,0,0]:=dc;have hT:o9 0 [[]]=[0,0,0,0,0,0]:=dc;have loop_a:=fun {R:Type} {n:Nat} (hn:1<=n) {k:KE R}=> @aNs R L n hL hn k L [0,0,0,0,0,0] rfl om;have hl0:aG 0=[]:=dc;rw[hf]at loop_a;rw[hT];clear hf hT;obtain _|n:=n;omega
 simp-implicitDefEqProofs (maxSteps:=9^7) (disch:=try exact Dz) only[↓DN,↓kAsg,↓kRet,UP,simprocAttr,↓nB,hl0,i7,↓aIk,↓loop_a,QS,JP,Tryz.f89]
end
def parA(P:List Sys):Int:=P.foldl (fun z s=>iOr .i64 z s.al) 0
theorem aEl{R:Type}{L n:Nat}(hn:1<=n){P:List Sys}(hP:P.length<=3){k:KE R}:∀(j i m:Nat) (z:Int) (hi:i+j=P.length) (hm:j<m),
  aV env (aA env L n) L 0 [] Bz47 (rA 0) (U2 (Z2 (U4 (U1 (Z2 (Z1 (U8 (U1 ([]))))))))) m (Y2 (nI 0::nI z::Y4 (Y1 (.d (.ivs P.length (sysD P))::nI (P.length)::nI i::Y8 (Y1 ([])))))) [] k
  =k (.exit 0) (Y2 (nI 0::nI ((P.drop i).foldl (fun z s=>iOr .i64 z s.al) z)::Y4 (Y1 (.d (.ivs P.length (sysD P))::nI (P.length)::nI (P.length)::Y8 (Y1 ([])))))) []:=by
 intro j
 induction j with
 |zero=>
  intro i m z hi hm;obtain _|m:=m;omega;obtain rfl:i=P.length:=om;rw[Cg]
  simp-implicitDefEqProofs (maxSteps:=9^7) (disch:=try exact Dz) only[↓DN,↓kRet,UP,simprocAttr,Al,tZ,pW,Tryz.f25]<;>rfl
 |succ j ih=>
  intro i m z hi hm;obtain _|m:=m;omega;have hk:i<P.length:=om;have hc:(i:Int)<P.length:=om;have hi0:(0:Int)<=i:=om;have g:=mY hk;have ih':=ih (i+1) m (iOr .i64 z (P.getD i default).al) om om;rw[cs1 i]at ih';rw[bM hk (d:=default),Ct];clear ih;generalize P.drop (i+1)=w at *;generalize P.getD i default=s at *
  simp-implicitDefEqProofs (maxSteps:=9^7) (disch:=try exact Dz) only[↓DN,↓kRet,UP,simprocAttr,NE,Aw,Ba,hc,hi0,g,↓ih',tZ,pW,Tryz.f25]
theorem A3{L n:Nat}(hn:12<=n)(P:List Sys)(hP:cP P)(hL:2^60<=L):aA env L n 25 [.d (.ivs P.length (sysD P))] []=some (nI (if bR P=true then parA P else -1),[]):=by
 cases hv:bR P
 ·obtain _|n:=n;omega
  simp-implicitDefEqProofs (maxSteps:=9^7) (disch:=try exact Dz) only[↓DN,↓kAsg,↓kRet,UP,simprocAttr,↓dM,hv,BH,tA,Tryz.f25]
 ·obtain⟨h3,h1,hs⟩:=eT hv;have loop_a:=fun {R n k} hn=> @aEl R L n hn P h3 k P.length 0 L 0 om om;rw[Ay]at loop_a;simp only[Av]at loop_a;unfold parA;clear hs;obtain _|n:=n;omega
  simp-implicitDefEqProofs (maxSteps:=9^7) (disch:=try exact Dz) only[↓DN,↓kAsg,↓kRet,UP,simprocAttr,↓dM,hv,↓loop_a,BH,tA,Tryz.f25]
theorem BZ:type_of% fun {L} P hP hL=>ks fun hn=> @A3 L _ hn P hP hL:=fun {L} P hP hL=>ks fun hn=> @A3 L _ hn P hP hL
end Ev
end Go.Proofs.YtahbdkmimmnadaaGreatDoor
