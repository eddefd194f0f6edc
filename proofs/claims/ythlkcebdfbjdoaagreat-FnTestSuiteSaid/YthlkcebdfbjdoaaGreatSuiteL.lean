/-
  A search for a goal, walked.
-/
import Derived.Test.YthlkcebdfbjdoaaGreatPathV
import Derived.Test.YthlkcebdfbjdoaaGreatShlx
import Derived.Test.YthlkcebdfbjdoaaGreatMemS
set_option linter.unusedSimpArgs false
set_option linter.unusedVariables false
set_option maxRecDepth 8000
set_option maxHeartbeats 4000000
namespace Go.Proofs.YthlkcebdfbjdoaaGreat
namespace Ev
section
variable{R:Type}{L n:Nat}
theorem aNQ{st:List PStep}{p l:Int}{f:List Int}{i:Nat}(h:i<st.length):(addP st p l f).getD i default=st.getD i default:=by
 unfold addP
 split
 ·rfl
 ·exact kO h
theorem aOf{nx:Int->Int->List Int}{l:Int}:flat nx [] l=[]:=rfl
theorem aEj{nx:Int->Int->List Int}{n l:Int}{ns:List Int}:flat nx (n::ns) l=nx n l++flat nx ns l:=rfl
theorem aGL{nx:Int->Int->List Int}{c:Int}(hw:∀x c,(nx x c).length<=64):∀ns:List Int,(flat nx ns c).length<=64*ns.length
 | []=>by simp[flat]
 |x::ns=>by simp only[aEj,Af,Ad];have:=hw x c;have:=aGL (c:=c) hw ns;omega
def ltI(nx:Int->Int->List Int)(gl:Int->Bool)(ns:List Int)(p:Int):List Int->List Bool×List PStep->Nat
 | [],_=>0
 |l::ls,q=>if(visG gl (flat nx ns l) q.1 [] false).2.2=true then 0 else ltI nx gl ns p ls ((visG gl (flat nx ns l) q.1 [] false).1,addP q.2 p l (visG gl (flat nx ns l) q.1 [] false).2.1)+1
def outI(nx:Int->Int->List Int)(gl:Int->Bool)(ls:List Int):Nat->Nat->List Bool×List PStep->Nat
 |0,i,_=>i
 |j+1,i,q=>if i<q.2.length then
   (if(ltG nx gl (q.2.getD i default).ns i ls q).1=true then i
    else outI nx gl ls j (i+1) (ltG nx gl (q.2.getD i default).ns i ls q).2)
  else i
def txt(w:List Int):List UInt8:=w.map bR
def VF(st:List PStep):List UInt8:=txt (fW st st.length (st.length-1))
theorem OP{R:Type}{E:Env}{call:aU}{h:H}{f:FuncId}{args:List A}{len:Nat}{k:KA R}{id e g e2 g2:Nat}{cs cs2:List D}(hi:h[id]? =some (.arr cs e g))(hid:idsL args=[id])(hm:(E.hint f).mode=0)(he:call f (aE (aI [id]) args) [.arr cs e g]=some (.sl 0 g2 0 len,[.arr cs2 e2 g2])):
  aW E call h f args k=k (.sl id g2 0 len) (h.set id (.arr cs2 e2 g2)):=by
 have hre:aD aG h [id] []=[id]:=by
  have e1:aD aG h [id] []=match h[id]? with
   |some (.box cs)=>aD (aG-1) h ([]++idsL cs) ([]++[id])
   |some (.vec cs _ _)=>aD (aG-1) h ([]++idsL cs) ([]++[id])
   |some .void=>aD (aG-1) h [] []
   |some _=>aD (aG-1) h [] ([]++[id])
   |none=>aD (aG-1) h [] []:=rfl
  rw[e1,hi];rfl
 have hpk:pack h [id]=[.arr cs e g]:=by
  simp only[pack,Ah,Ap,Aa,hi];rfl
 unfold aW;rw[hid,hre,hpk]
 have hc:bS call E.hint [.arr cs e g] f (aE (aI [id]) args)=some (.sl 0 g2 0 len,[.arr cs2 e2 g2]):=by
  unfold bS;rw[hm];exact he
 rw[hc]
 have hcl:closed h [id] [id]=true:=by
  simp only[closed,Br,Ca,hi];simp
 have hb:back [id] h.length 1 0=some id:=rfl;simp only[Ad,Ac,Ab,hcl,and_self,if_true,mapA,Ag,hb];simp only[bF,mapO,Ap,Ai]
theorem aKO(hn:4<=n)(hL:2^60<=L){I:Int->Prop}{nf:FuncId}{caps:List D}{gb:D}{size:Nat}{nx:Int->Int->List Int}{ls ns:List Int}{sc:List D}{seen:List Bool}{sn ii q:Nat}{c:Int}
  (kc_n:∀ {R:Type} {n id:Nat} {hq:H} {k:KA R} (x c:Int) (o:List Int),4<=n->I x->0<=c->c<6->o.length<=2147483648->hq[id]? =some (.arr (ints o) 1 0)->aW env (aA env L n) hq nf (nI x::nI c::.sl id 0 0 o.length::caps.map A.d) k=k (.sl id (nx x c).length 0 (o++nx x c).length) (hq.set id (.arr (ints (o++nx x c)) 1 (nx x c).length)))
  (hI:∀x∈ns,I x) (hw:∀x c,(nx x c).length<=64) (hc0:0<=c) (hc6:c<6) (hnl:ns.length<=16777216) {k:KE R}:∀(j i m:Nat) (o:List Int) (len:Nat) (hi:i+j=ns.length) (hm:j<m) (ho:o.length<=64*i) (hlen:len=o.length),
  aS env (aA env L n) L 0 (W16 (W2 [2])) Bz2 (iQ 2) (U2 (Z2 (U4 (U2 (Z2 (U1 (Z2 (Z1 (U1 (Z2 (U8 (U4 (U2 (Z2 (Z1 (U4 (U2 (U1 (Z2 (Z1 (U16 (U1 ([]))))))))))))))))))))))) m (Y2 (.d (.ivs ls.length (ints ls))::.d (.fn nf caps)::Y4 (Y2 (.d (.str [])::.d (.bool false)::Y1 (.ptr 0 0 0::.clo 126 [.ptr 1 0 0,.ptr 2 0 0,.ptr 0 0 0]::nI ii::Y1 (nI c::.sl 3 0 0 len::Y8 (Y4 (Y2 (.d (.ivs ls.length (ints ls))::nI (ls.length)::nI q::Y4 (Y2 (Y1 (.d (.ivs ns.length (ints ns))::nI (ns.length)::nI i::Y16 (Y1 ([])))))))))))))) [.box [.sl 4 0 0 sn],.box [.sl 5 0 0 size],.box [.d gb],.arr (ints o) 1 0,.arr sc 3 0,.arr (cZ seen) 1 0] k
  =k (.exit 4) (Y2 (.d (.ivs ls.length (ints ls))::.d (.fn nf caps)::Y4 (Y2 (.d (.str [])::.d (.bool false)::Y1 (.ptr 0 0 0::.clo 126 [.ptr 1 0 0,.ptr 2 0 0,.ptr 0 0 0]::nI ii::Y1 (nI c::.sl 3 0 0 (o++flat nx (ns.drop i) c).length::Y8 (Y4 (Y2 (.d (.ivs ls.length (ints ls))::nI (ls.length)::nI q::Y4 (Y2 (Y1 (.d (.ivs ns.length (ints ns))::nI (ns.length)::nI (ns.length)::Y16 (Y1 ([])))))))))))))) [.box [.sl 4 0 0 sn],.box [.sl 5 0 0 size],.box [.d gb],.arr (ints (o++flat nx (ns.drop i) c)) 1 0,.arr sc 3 0,.arr (cZ seen) 1 0]:=by
 intro j
 induction j with
 |zero=>
  intro i m o len hi hm ho hlen;obtain _|m:=m;omega;obtain rfl:i=ns.length:=om;subst hlen
  simp-implicitDefEqProofs (maxSteps:=9^7) (disch:=try exact Dz) only[↓DN,↓kRet,UP,simprocAttr,Aj,CA,xC,Tryz.f94];simp only[Bz,aOf,Ai,Ac,Bs]
 |succ j ih=>
  intro i m o len hi hm ho hlen;obtain _|m:=m;omega;subst hlen;have hc:(i:Int)<ns.length:=om;have hk:i<ns.length:=om;have hmem:ns.getD i 0∈ns:=by rw[Aa,Ae hk];exact Az hk
  have hIx:=hI _ hmem;have hww:=hw (ns.getD i 0) c;have hob:o.length<=2147483648:=om;have e4:((i+1:Nat):Int)=(i:Int)+1:=om;have ih':=ih (i+1) m (o++nx (ns.getD i 0) c) (o.length+(nx (ns.getD i 0) c).length) om om (by rw[Af];omega) (by rw[Af]);rw[e4]at ih';rw[b7 hk (d:=0)];simp only[aEj,<-Am];have kc_m:=fun {R:Type} {n id:Nat} {hq:H} {k:KA R} (h4:4<=n) (hg:hq[id]? =some (.arr (ints o) 1 0))=> @kc_n R n id hq k (ns.getD i 0) c o h4 hIx hc0 hc6 hob hg;clear ih hmem kc_n;generalize nx (ns.getD i 0) c=w at *
  simp-implicitDefEqProofs (maxSteps:=9^7) (disch:=try exact Dz) only[↓DN,↓kRet,UP,simprocAttr,hc,↓kc_m,↓ih',CA,xC,Tryz.f94]
theorem TQ:∀(ns:List Int) (s:List Bool) (f:List Int),f.length<=(visF ns s f).2.length
 | [],s,f=>Ab _
 |n::ns,s,f=>by
  unfold visF
  split
  ·exact TQ ns s f
  ·have:=TQ ns (s.set n.toNat true) (f++[n]);simp only[Af,Ad,Ac]at this;omega
theorem aHu{ns:List Int}{size:Nat}(h:ns≠[]):0<(visF ns (List.replicate size false) []).2.length:=by
 cases ns with
 |nil=>exact absurd rfl h
 |cons n ns=>
  have e:(List.replicate size false).getD n.toNat false=false:=by
   rw[Aa,List.getElem?_replicate]
   split<;>rfl
  unfold visF;rw[e];have:=TQ ns ((List.replicate size false).set n.toNat true) ([]++[n]);simp only[Af,Ad,Ac]at this;simp only[Ak,if_false];omega
theorem aOZ{k:KA R}(hn:4<=n)(hL:2^60<=L){I:Int->Prop}{gl:Int->Bool}{gf:FuncId}{caps:List D}{size:Nat}{p l:Int}{ns:List Int}(kc_g:∀ {R:Type} {n:Nat} {hq:H} {k:KA R} (x:Int),2<=n->I x->aW env (aA env L n) hq gf (nI x::caps.map A.d) k=k (.d (.bool (gl x))) hq)(hI:∀x∈ns,I x)(hr:∀x,I x->0<=x/\x<size)(hsz:size<=4294967290)(hnl:ns.length<=4294967290)(hne:ns≠[]):
  FE env (aA env L n) [.box [.d (.fn gf caps)],.arr (cZ (List.replicate size false)) 1 0,.arr [] 0 0,.box [.sl 1 0 0 size],.arr [] 0 0,.box [.sl 4 0 0 0]] 126 [.ptr 3 0 0,.ptr 0 0 0,.ptr 5 0 0] [nI p,nI l,.d (.ivs ns.length (ints ns))] k
  =k (.d (.bool (visG gl ns (List.replicate size false) [] false).2.2)) [.box [.d (.fn gf caps)],.arr (cZ (visG gl ns (List.replicate size false) [] false).1) 1 0,.arr [] 0 0,.box [.sl 1 0 0 size],.arr (bZ [⟨p,l,(visG gl ns (List.replicate size false) [] false).2.1⟩]) 3 1,.box [.sl 4 1 0 1]]:=by
 have he:=aPC (gl:=gl) (p:=p) (l:=l) hn hL (fun {R n hq k}=>kc_g) hI hr hsz hnl (List.replicate size false) sm _ rfl (by have:=aHu (size:=size) hne;rw[(wX gl ns _ [] false).2];omega);unfold FE;generalize List.replicate size false=sz at *;generalize hh:[O.box [.d (.fn gf caps)],.arr (cZ sz) 1 0,.arr [] 0 0,.box [.sl 1 0 0 size],.arr [] 0 0,.box [.sl 4 0 0 0]]=h;have hre:aD aG h (idsL [A.ptr 3 0 0,.ptr 0 0 0,.ptr 5 0 0]++idsL [A.d (.int .i64 p),nI l,.d (.ivs ns.length (ints ns))]) []=[3,0,5,1,4]:=by subst hh;rfl
 have hpk:pack h [3,0,5,1,4]=[.box [.sl 3 0 0 size],.box [.d (.fn gf caps)],.box [.sl 4 0 0 0],.arr (cZ sz) 1 0,.arr [] 0 0]:=by subst hh;rfl
 have hma:aE (aI [3,0,5,1,4]) [A.d (.int .i64 p),nI l,.d (.ivs ns.length (ints ns))]++aE (aI [3,0,5,1,4]) [A.ptr 3 0 0,.ptr 0 0 0,.ptr 5 0 0]=[nI p,nI l,.d (.ivs ns.length (ints ns)),.ptr 0 0 0,.ptr 1 0 0,.ptr 2 0 0]:=rfl
 have hca:∀h f args,bS (aA env L n) env.hint h f args=if(env.hint f).mode=0 then aA env L n f args h else bS (aA env L n) env.hint h f args:=by
  intro h f args
  split
  ·rename_i hm
   unfold bS;rw[hm];rfl
  ·rfl
 rw[hre,hpk,hma,hca,if_pos kS,he];have hcl:closed h [3,0,5,1,4] (idsL [A.ptr 3 0 0,.ptr 0 0 0,.ptr 5 0 0]++idsL [A.d (.int .i64 p),nI l,.d (.ivs ns.length (ints ns))])=true:=by subst hh;rfl
 subst hh;simp only[hcl,Ad,Ac,Ab,and_self,if_true]<;>rfl
def gV(r:List Bool×List Int×Bool):Nat:=if r.2.1=[]then 0 else 1
theorem aPK{k:KA R}(hn:4<=n)(hL:2^60<=L){I:Int->Prop}{gl:Int->Bool}{gf:FuncId}{caps:List D}{size:Nat}{p l:Int}{ns:List Int}(kc_g:∀ {R:Type} {n:Nat} {hq:H} {k:KA R} (x:Int),2<=n->I x->aW env (aA env L n) hq gf (nI x::caps.map A.d) k=k (.d (.bool (gl x))) hq)(hI:∀x∈ns,I x)(hr:∀x,I x->0<=x/\x<size)(hsz:size<=4294967290)(hnl:ns.length<=4294967290)(seen:List Bool)(hs:seen.length=size)(st:List PStep)(hst:st.length<=4294967290):
  FE env (aA env L n) [.box [.sl 4 0 0 st.length],.box [.sl 5 0 0 size],.box [.d (.fn gf caps)],.arr (ints ns) 1 0,.arr (bZ st) 3 0,.arr (cZ seen) 1 0] 126 [.ptr 1 0 0,.ptr 2 0 0,.ptr 0 0 0] [nI p,nI l,.sl 3 0 0 ns.length] k
  =k (.d (.bool (visG gl ns seen [] false).2.2)) [.box [.sl 4 (gV (visG gl ns seen [] false)) 0 (addP st p l (visG gl ns seen [] false).2.1).length],.box [.sl 5 0 0 size],.box [.d (.fn gf caps)],.arr (ints ns) 1 0,.arr (bZ (addP st p l (visG gl ns seen [] false).2.1)) 3 (gV (visG gl ns seen [] false)),.arr (cZ (visG gl ns seen [] false).1) 1 0]:=by
 have he:=aPl (gl:=gl) (p:=p) (l:=l) hn hL (fun {R n hq k}=>kc_g) hI hr hsz hnl seen hs st hst _ rfl;unfold FE;generalize hh:[O.box [.sl 4 0 0 st.length],.box [.sl 5 0 0 size],.box [.d (.fn gf caps)],.arr (ints ns) 1 0,.arr (bZ st) 3 0,.arr (cZ seen) 1 0]=h;have hre:aD aG h (idsL [A.ptr 1 0 0,.ptr 2 0 0,.ptr 0 0 0]++idsL [A.d (.int .i64 p),nI l,.sl 3 0 0 ns.length]) []=[1,2,0,3,5,4]:=by subst hh;rfl
 have hpk:pack h [1,2,0,3,5,4]=[.box [.sl 4 0 0 size],.box [.d (.fn gf caps)],.box [.sl 5 0 0 st.length],.arr (ints ns) 1 0,.arr (cZ seen) 1 0,.arr (bZ st) 3 0]:=by subst hh;rfl
 have hma:aE (aI [1,2,0,3,5,4]) [A.d (.int .i64 p),nI l,.sl 3 0 0 ns.length]++aE (aI [1,2,0,3,5,4]) [A.ptr 1 0 0,.ptr 2 0 0,.ptr 0 0 0]=[nI p,nI l,.sl 3 0 0 ns.length,.ptr 0 0 0,.ptr 1 0 0,.ptr 2 0 0]:=rfl
 have hca:∀h f args,bS (aA env L n) env.hint h f args=if(env.hint f).mode=0 then aA env L n f args h else bS (aA env L n) env.hint h f args:=by
  intro h f args
  split
  ·rename_i hm
   unfold bS;rw[hm];rfl
  ·rfl
 rw[hre,hpk,hma,hca,if_pos kS,he];have hcl:closed h [1,2,0,3,5,4] (idsL [A.ptr 1 0 0,.ptr 2 0 0,.ptr 0 0 0]++idsL [A.d (.int .i64 p),nI l,.sl 3 0 0 ns.length])=true:=by subst hh;rfl
 subst hh;simp only[hcl,Ad,Ac,Ab,and_self,if_true]<;>rfl
end
def chG(ls:List Int)(w:Str):List Str:=ls.map fun l=>w++[bR l]
def lvG(ls:List Int):Nat->List Str
 |0=>[[]]
 |k+1=>(lvG ls k).flatMap (chG ls)
def midG(ls:List Int):Nat->List Str
 |0=>[[]]
 |k+1=>midG ls k++lvG ls (k+1)
theorem aI8{ls:List Int}{w:Str}:(chG ls w).length=ls.length:=by simp[chG]
theorem UZ{ls:List Int}:∀k,(lvG ls k).length=ls.length^k
 |0=>rfl
 |k+1=>by
  have e:∀l:List Str,(l.flatMap (chG ls)).length=l.length*ls.length:=by
   intro l
   induction l with
   |nil=>simp
   |cons a l ih=>rw[List.flatMap_cons,Af,ih,aI8,Ad,Bx];omega
  show((lvG ls k).flatMap (chG ls)).length=_;rw[e,UZ k,Nat.pow_succ]
theorem G8{ls:List Int}:∀k,∀w∈lvG ls k,w.length=k/\∀b∈w,∃l∈ls,b=bR l
 |0,w,h=>by
  obtain rfl:w=[]:=by simpa [lvG]using h
  exact⟨rfl,by simp⟩
 |k+1,w,h=>by
  obtain⟨v,hv,hw⟩:=Di.1 h;obtain⟨l,hl,rfl⟩:=Bp.1 hw;obtain⟨h1,h2⟩:=G8 k v hv;refine⟨by simp[h1],fun b hb=> ?_⟩
  rcases Al.1 hb with hb|hb
  ·exact h2 b hb
  ·exact⟨l,hl,by simpa using hb⟩
theorem aDz{ls:List Int}:∀k,∀w∈midG ls k,w.length<=k/\∀b∈w,∃l∈ls,b=bR l
 |0,w,h=>by
  obtain rfl:w=[]:=by simpa [midG]using h
  exact⟨Ab _,by simp⟩
 |k+1,w,h=>by
  rcases Al.1 h with h|h
  ·obtain⟨h1,h2⟩:=aDz k w h;exact⟨by omega,h2⟩
  ·obtain⟨h1,h2⟩:=G8 (k+1) w h;exact⟨by omega,h2⟩
theorem aLQ{ls:List Int}:∀k,∃p,midG ls k=p++lvG ls k
 |0=>⟨[],rfl⟩
 |k+1=>⟨midG ls k,rfl⟩
theorem D6{ls:List Int}(hl:ls.length<=6):∀k,k<=3->(midG ls k).length<=259:=by
 have h1:ls.length^1<=6^1:=Nat.pow_le_pow_left hl 1;have h2:ls.length^2<=6^2:=Nat.pow_le_pow_left hl 2;have h3:ls.length^3<=6^3:=Nat.pow_le_pow_left hl 3;intro k hk
 rcases(show k=0\/k=1\/k=2\/k=3 by omega)with rfl|rfl|rfl|rfl
 ·simp[midG]
 ·simp only[midG,Af,UZ,Co,Ag];omega
 ·simp only[midG,Af,UZ,Co,Ag,Nat.reduceAdd];omega
 ·simp only[midG,Af,UZ,Co,Ag,Nat.reduceAdd];omega
def insW(ws:List Str)(w:Str):List Str:=if w∈ws then ws else ws++[w]
def cT(ws l:List Str):List Str:=l.foldl insW ws
def aY(ws:List Str)(w:Str):Nat:=ws.countP fun x=>decide (cmpX x w<0)
def ordW(ws:List Str)(w:Str):List Str:=if w∈ws then ws else ws.take (aY ws w)++w::ws.drop (aY ws w)
def gK(ws l:List Str):List Str:=l.foldl ordW ws
def mB(ws:List Str):Prop:=ws.Pairwise fun x y=>cmpX x y<0
theorem aLK{ws:List Str}:cT ws []=ws:=rfl
theorem N1{ws l:List Str}{w:Str}:cT ws (w::l)=cT (insW ws w) l:=rfl
theorem aLv{ws l m:List Str}:cT ws (l++m)=cT (cT ws l) m:=by simp[cT]
theorem X4{ws l:List Str}{w:Str}:gK ws (w::l)=gK (ordW ws w) l:=rfl
theorem aKn{ws l m:List Str}:gK ws (l++m)=gK (gK ws l) m:=by simp[gK]
theorem aJE{ws:List Str}{w:Str}:ws.length<=(insW ws w).length/\(insW ws w).length<=ws.length+1:=by
 unfold insW;split<;>simp
theorem ZO:∀ {l ws:List Str},ws.length<=(cT ws l).length/\(cT ws l).length<=ws.length+l.length
 | [],ws=>⟨Ab _,Ab _⟩
 |w::l,ws=>by
  have h1:=aJE (ws:=ws) (w:=w);have h2:=ZO (l:=l) (ws:=insW ws w);rw[N1,Ad];omega
theorem aGR{ws:List Str}{w x:Str}:x∈insW ws w↔x∈ws\/x=w:=by
 unfold insW
 split
 ·rename_i h
  exact⟨.inl,fun h2=>h2.elim (fun h=>h) fun h2=>by rw[h2];exact h⟩
 ·simp
theorem US{x:Str}:∀ {l ws:List Str},x∈cT ws l↔x∈ws\/x∈l
 | [],ws=>by simp[aLK]
 |w::l,ws=>by
  rw[N1,US,aGR,At]
  constructor
  ·rintro((h|h)|h)
   ·exact .inl h
   ·exact .inr (.inl h)
   ·exact .inr (.inr h)
  ·rintro(h|h|h)
   ·exact .inl (.inl h)
   ·exact .inl (.inr h)
   ·exact .inr h
theorem vT:∀ {ws:List Str} (_:mB ws) (w:Str) (i:Nat) (h:i<ws.length),cmpX ws[i] w<0↔i<aY ws w
 | [],_,_,_,h=>by simp at h
 |a::ws,hs,w,i,h=>by
  obtain⟨h1,h2⟩:=List.pairwise_cons.1 hs;unfold aY;rw[Dt]
  by_cases ha:cmpX a w<0
  ·rw[if_pos (by simpa using ha)]
   cases i with
   |zero=>simp[ha]
   |succ i=>
    have:=vT h2 w i (by simpa using h);unfold aY at this;rw[List.getElem_cons_succ,this];omega
  ·have h0:aY ws w=0:=by
    unfold aY;rw[List.countP_eq_zero];intro x hx;have:=h1 x hx;simp only[decide_eq_true_eq];exact fun h3=>ha (qP this h3)
   rw[if_neg (by simpa using ha)];unfold aY at h0;rw[h0]
   cases i with
   |zero=>simpa using ha
   |succ i=>
    rw[List.getElem_cons_succ];have:=h1 (ws[i]'(by simpa using h)) (Az _)
    constructor
    ·intro h3;exact(ha (qP this h3)).elim
    ·intro h3;omega
theorem aEf{ws:List Str}{w:Str}:aY ws w<=ws.length:=List.countP_le_length
theorem aL3{ws:List Str}(hs:mB ws)(w:Str):(aY ws w<ws.length/\ws.getD (aY ws w) []=w)↔w∈ws:=by
 constructor
 ·rintro⟨h1,h2⟩;rw[Aa,Ae h1]at h2;have h2:ws[aY ws w]=w:=h2;rw[<-h2];exact Az _
 ·intro hm;obtain⟨i,hi,rfl⟩:=Ck hm;have h1:¬i<aY ws ws[i]:=fun h=>EO _ ((vT hs _ i hi).2 h)
  have h2:¬aY ws ws[i]<i:=fun h=>by
   have h3:=List.pairwise_iff_getElem.1 hs (aY ws ws[i]) i om hi h;have:=(vT hs ws[i] (aY ws ws[i]) om).1 h3;omega
  have e:aY ws ws[i]=i:=om;refine⟨by omega,?_⟩;rw[e,Aa,Ae hi];rfl
theorem aE4{ws:List Str}(hs:mB ws)(w:Str):mB (ordW ws w):=by
 unfold ordW
 split
 ·exact hs
 ·rename_i hn
  have lt1:∀x∈ws.take (aY ws w),cmpX x w<0:=by
   intro x hx;obtain⟨i,hi,rfl⟩:=Ck hx;rw[Bt]at hi;rw[List.getElem_take];exact(vT hs w i om).2 om
  have lt2:∀x∈ws.drop (aY ws w),cmpX w x<0:=by
   intro x hx;obtain⟨i,hi,rfl⟩:=Ck hx;rw[Ce]at hi;rw[List.getElem_drop]
   have h1:¬cmpX ws[aY ws w+i] w<0:=fun h=>by
    have:=(vT hs w (aY ws w+i) om).1 h;omega
   rcases L9 w ws[aY ws w+i]with h|h|h
   ·exact(hn (by rw[h];exact Az _)).elim
   ·exact h
   ·exact(h1 h).elim
  unfold mB;rw[List.pairwise_append];refine⟨hs.sublist (List.take_sublist _ _),List.pairwise_cons.2 ⟨lt2,hs.sublist (List.drop_sublist _ _)⟩,fun x hx y hy=> ?_⟩
  rcases At.1 hy with rfl|hy
  ·exact lt1 x hx
  ·exact qP (lt1 x hx) (lt2 y hy)
theorem KH:∀ {l ws:List Str},mB ws->mB (gK ws l)
 | [],_,h=>h
 |w::l,ws,h=>by rw[X4];exact KH (l:=l) (ws:=ordW ws w) (aE4 h w)
theorem ZZ{ws vs:List Str}(h:ws.Perm vs)(w:Str):(ordW ws w).Perm (insW vs w):=by
 unfold ordW insW
 by_cases hm:w∈ws
 ·rw[if_pos hm,if_pos (h.mem_iff.1 hm)];exact h
 ·rw[if_neg hm,if_neg fun h2=>hm (h.mem_iff.2 h2)];refine List.perm_middle.trans ?_;rw[List.take_append_drop];refine(h.cons w).trans ?_;exact(List.perm_append_singleton w vs).symm
theorem AS:∀ {l ws vs:List Str},ws.Perm vs->(gK ws l).Perm (cT vs l)
 | [],_,_,h=>h
 |w::l,ws,vs,h=>by rw[X4,N1];exact AS (l:=l) (ZZ h w)
theorem aM6{ws:List Str}{w:Str}:ws.length<=(ordW ws w).length/\(ordW ws w).length<=ws.length+1:=by
 have h:=(ZZ (List.Perm.refl ws) w).length_eq;have:=aJE (ws:=ws) (w:=w);omega
theorem aJY{l ws:List Str}:ws.length<=(gK ws l).length:=by
 have h:=(AS (l:=l) (List.Perm.refl ws)).length_eq;have:=(ZO (l:=l) (ws:=ws)).1;omega
theorem aN7{l:List Str}(h:mB l):l.Pairwise fun x y=>leX x y=true:=h.imp fun h=>aLt h
theorem aKm{l m:List Str}(hl:mB l)(h:m.Perm l):m.mergeSort leX=l:=by
 refine((List.mergeSort_perm m leX).trans h).eq_of_pairwise (fun x y _ _ h1 h2=>ZH h1 h2) ?_ (aN7 hl);exact List.pairwise_mergeSort JK I9 _
def endL(c m:Str)(ends:List Str):List Str:=ends.map fun e=>c++m++e
def midL(c:Str)(mids ends:List Str):List Str:=mids.flatMap fun m=>endL c m ends
def covL(cov mids ends:List Str):List Str:=cov.flatMap fun c=>midL c mids ends
def optF(f:Str->List Str->Bool×List Str):List Str->List Str->Option (List Str)
 | [],o=>some o
 |w::l,o=>if(f w o).1=true then optF f l (f w o).2 else none
def run3(f:Str->List Str->Bool×List Str)(ws:List Str):Nat->Nat->List Str->Bool×Nat×List Str
 |0,q,o=>(true,q,o)
 |j+1,q,o=>if(f (ws.getD q []) o).1=true then run3 f ws j (q+1) (f (ws.getD q []) o).2 else(false,q,(f (ws.getD q []) o).2)
theorem NY{f:Str->List Str->Bool×List Str}{ws:List Str}:∀(j q:Nat) (o:List Str),q+j=ws.length->optF f (ws.drop q) o=if(run3 f ws j q o).1=true then some (run3 f ws j q o).2.2 else none
 |0,q,o,h=>by
  obtain rfl:q=ws.length:=om;rw[Bz];rfl
 |j+1,q,o,h=>by
  have hq:q<ws.length:=om
  have e:ws.drop q=ws.getD q []::ws.drop (q+1):=by
   rw[Dp hq,Aa,Ae hq];rfl
  rw[e];unfold optF run3
  by_cases hf:(f (ws.getD q []) o).1=true
  ·rw[if_pos hf,if_pos hf,NY j (q+1) _ om]
  ·rw[if_neg hf,if_neg hf,if_neg Bool.false_ne_true]
theorem y6{f:Str->List Str->Bool×List Str}{ws:List Str}{j q:Nat}{o:List Str}(h:(f (ws.getD q []) o).1=true):run3 f ws (j+1) q o=run3 f ws j (q+1) (f (ws.getD q []) o).2:=if_pos h
theorem EI{f:Str->List Str->Bool×List Str}{ws:List Str}{j q:Nat}{o:List Str}(h:(f (ws.getD q []) o).1=false):run3 f ws (j+1) q o=(false,q,(f (ws.getD q []) o).2):=if_neg (by rw[h];exact Bool.false_ne_true)
theorem EU{f:Str->List Str->Bool×List Str}{g:Str->List Str}{ins:List Str->List Str->List Str}(h0:∀o,ins o []=o)(happ:∀o l m,ins o (l++m)=ins (ins o l) m)(hle:∀o l,o.length<=(ins o l).length)
  (hf:∀w o,o.length<=3000->if 3000<(ins o (g w)).length then(f w o).1=false else f w o=(true,ins o (g w))):∀(ws o:List Str),o.length<=3000->optF f ws o=if 3000<(ins o (ws.flatMap g)).length then none else some (ins o (ws.flatMap g))
 | [],o,h=>by
  rw[List.flatMap_nil,h0,if_neg om];rfl
 |w::ws,o,h=>by
  have hw:=hf w o h;rw[List.flatMap_cons,happ];unfold optF
  by_cases hc:3000<(ins o (g w)).length
  ·rw[if_pos hc]at hw;rw[hw,if_neg Bool.false_ne_true,if_pos];have:=hle (ins o (g w)) (ws.flatMap g);omega
  ·rw[if_neg hc]at hw;rw[hw,if_pos rfl];exact EU h0 happ hle hf ws _ (Nat.le_of_not_lt hc)
theorem UC{f:Str->List Str->Bool×List Str}{ws o z:List Str}(h:optF f ws o=if 3000<z.length then none else some z):if 3000<z.length then(run3 f ws ws.length 0 o).1=false else((run3 f ws ws.length 0 o).1,(run3 f ws ws.length 0 o).2.2)=(true,z):=by
 have e:=NY (f:=f) (ws:=ws) ws.length 0 o om;rw[Bc,h]at e
 by_cases hc:3000<z.length
 ·rw[if_pos hc]at e|-
  cases hb:(run3 f ws ws.length 0 o).1 with
  |false=>rfl
  |true=>rw[hb,if_pos rfl]at e;cases e
 ·rw[if_neg hc]at e|-
  cases hb:(run3 f ws ws.length 0 o).1 with
  |false=>rw[hb,if_neg Bool.false_ne_true]at e;cases e
  |true=>rw[hb,if_pos rfl]at e;injection e with e;rw[e]
def midF(c:Str)(ends:List Str)(m:Str)(o:List Str):Bool×List Str:=(!decide (3000<(cT o (endL c m ends)).length),cT o (endL c m ends))
def covF(mids ends:List Str)(c:Str)(o:List Str):Bool×List Str:=((run3 (midF c ends) mids mids.length 0 o).1,(run3 (midF c ends) mids mids.length 0 o).2.2)
def endS(c m:Str)(e:Str)(o:List Str):Bool×List Str:=(!decide (3000<(ordW o (c++m++e)).length),ordW o (c++m++e))
def midZ(c:Str)(ends:List Str)(m:Str)(o:List Str):Bool×List Str:=((run3 (endS c m) ends ends.length 0 o).1,(run3 (endS c m) ends ends.length 0 o).2.2)
def covZ(mids ends:List Str)(c:Str)(o:List Str):Bool×List Str:=((run3 (midZ c ends) mids mids.length 0 o).1,(run3 (midZ c ends) mids mids.length 0 o).2.2)
theorem aI9{cov mids ends:List Str}:optF (covF mids ends) cov []=if 3000<(cT [] (covL cov mids ends)).length then none else some (cT [] (covL cov mids ends)):=by
 have ok:(∀o,cT o []=o)/\(∀o l m,cT o (l++m)=cT (cT o l) m)/\∀o l,o.length<=(cT o l).length:=⟨fun _=>rfl,fun _ _ _=>aLv,fun _ _=>ZO.1⟩
 refine EU ok.1 ok.2.1 ok.2.2 (fun c o ho=>UC (EU ok.1 ok.2.1 ok.2.2 (fun m o ho=> ?_) mids o ho)) cov [] sm;unfold midF
 split<;>simp[*]
theorem aPt{cov mids ends:List Str}:optF (covZ mids ends) cov []=if 3000<(gK [] (covL cov mids ends)).length then none else some (gK [] (covL cov mids ends)):=by
 have ok:(∀o,gK o []=o)/\(∀o l m,gK o (l++m)=gK (gK o l) m)/\∀o l,o.length<=(gK o l).length:=⟨fun _=>rfl,fun _ _ _=>aKn,fun _ _=>aJY⟩
 refine EU ok.1 ok.2.1 ok.2.2 (fun c o ho=>UC (EU ok.1 ok.2.1 ok.2.2 (fun m o ho=>UC ?_) mids o ho)) cov [] sm
 have e:endL c m ends=ends.flatMap fun e=>[c++m++e]:=by unfold endL;induction ends with
  |nil=>rfl
  |cons x l ih=>simp only[Ah,List.flatMap_cons,ih,Ec]
 rw[e];refine EU ok.1 ok.2.1 ok.2.2 (fun e o ho=> ?_) ends o ho;have e1:gK o [c++m++e]=ordW o (c++m++e):=rfl;unfold endS;rw[e1]
 split<;>rename_i hc<;>simp only[hc,decide_true,decide_false,Bool.not_true,Bool.not_false]
def qJ(cov mids ends:List Str):Option (List Str):=if 3000<(gK [] (covL cov mids ends)).length then none else some (gK [] (covL cov mids ends))
theorem aJ0{cov mids ends:List Str}:(optF (covF mids ends) cov []).map (fun ws=>ws.mergeSort leX)=qJ cov mids ends:=by
 rw[aI9];unfold qJ;have hp:=AS (l:=covL cov mids ends) (List.Perm.refl []);rw[hp.length_eq]
 split
 ·rfl
 ·rw[Ax,aKm (KH List.Pairwise.nil) hp.symm]
theorem aMv{cov mids ends l:List Str}(h:qJ cov mids ends=some l)(x:Str):x∈l↔∃c∈cov,∃m∈mids,∃e∈ends,x=c++m++e:=by
 unfold qJ at h
 split at h
 ·cases h
 ·cases h;rw[(AS (l:=covL cov mids ends) (List.Perm.refl [])).mem_iff,US]
  simp only[Bo,false_or,covL,midL,endL,Di,Bp]
  constructor
  ·rintro⟨c,hc,m,hm,e,he,rfl⟩;exact⟨c,hc,m,hm,e,he,rfl⟩
  ·rintro⟨c,hc,m,hm,e,he,rfl⟩;exact⟨c,hc,m,hm,e,he,rfl⟩
theorem aNU{cov mids ends l:List Str}(h:qJ cov mids ends=some l):mB l/\l.length<=3000:=by
 unfold qJ at h
 split at h
 ·cases h
 ·cases h;exact⟨KH List.Pairwise.nil,by omega⟩
end Ev
end Go.Proofs.YthlkcebdfbjdoaaGreat
