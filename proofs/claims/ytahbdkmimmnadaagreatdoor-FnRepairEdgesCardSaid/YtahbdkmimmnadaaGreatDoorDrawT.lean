/-
  The search through systems and a property, as the reference does it.
-/
import Derived.Test.YtahbdkmimmnadaaGreatDoorFirstP
import Derived.Test.YtahbdkmimmnadaaGreatDoorDraw2
import Derived.Test.YtahbdkmimmnadaaGreatDoorEvDef
import Derived.Test.YtahbdkmimmnadaaGreatDoorEdges
import Derived.Test.YtahbdkmimmnadaaGreatDoorDistG
set_option linter.unusedSimpArgs false
set_option linter.unusedVariables false
set_option linter.unusedSectionVars false
set_option maxRecDepth 8000
set_option maxHeartbeats 4000000
namespace Go.Proofs.YtahbdkmimmnadaaGreatDoor
namespace Ev
def netP(P:List Sys)(b:Aut):Net:=⟨P,[b],List.replicate (P.length+1) 0,parA P,3,0⟩
def msP(P:List Sys)(b:Aut)(l:Int):List Mb:=P.map (sysS l)++[((b.nx.length:Int),fun q=>[goI b.al b.nx q l])]
def zsP(P:List Sys)(b:Aut):List Int:=P.map (·.st)++[(b.nx.length:Int)]
def chP(P:List Sys)(b:Aut)(l v:Int)(i:Nat):List Int:=((msP P b l).getD i (0,fun _=>[])).2 ((decN (zsP P b) v).getD i 0)
theorem aIb{P:List Sys}{b:Aut}{l:Int}:(msP P b l).map (·.1)=zsP P b:=by
 unfold msP zsP;rw[Dk,List.map_map];rfl
theorem aIh{P:List Sys}{b:Aut}:(zsP P b).length=P.length+1:=by simp[zsP]
theorem nexP{P:List Sys}{b:Aut}{l v:Int}:nexG (chP P b l v) (zsP P b) (zsP P b).length 0 [0]=nxSp P b v l:=by
 have h:=@aNr (msP P b l) v (chP P b l v) (fun k _=>by unfold chP;rw[<-aIb (l:=l)]);rw[aIb]at h;have hl:(zsP P b).length=(msP P b l).length:=by rw[aIh];simp[msP]
 rw[hl,h];unfold msP nxSp;rw[List.reverse_append,List.reverse_singleton,Ek,nxR,<-List.map_reverse]
theorem aBt{P:List Sys}{b:Aut}{l v:Int}{i:Nat}(hi:i<P.length):chP P b l v i=choS (P.getD i default) l ((decN (zsP P b) v).getD i 0):=by
 unfold chP msP;rw[hU (by simpa using hi),Ab,Bc,Ae hi,Ab (l:=P),Ae hi];rfl
theorem aBN{P:List Sys}{b:Aut}{l v:Int}:chP P b l v P.length=[goI b.al b.nx ((decN (zsP P b) v).getD P.length 0) l]:=by
 unfold chP msP;have h:=@vW Mb (P.map (sysS l)) ((b.nx.length:Int),fun q=>[goI b.al b.nx q l]) (0,fun _=>[]);rw[Aw]at h;rw[h]
theorem aBA{P:List Sys}{b:Aut}{v:Int}:(decN (zsP P b) v).getD P.length 0=v.tmod b.nx.length:=by
 unfold zsP;rw[aJW];have h:=@vW Int (decN (P.map (·.st)) (v.tdiv b.nx.length)) (v.tmod b.nx.length) 0;rw[zH,Aw]at h;exact h
theorem aIr:∀ {zs:List Int} {z0:Int},0<z0->(∀z∈zs,0<z/\z<=16)->0<zs.foldl (·*·) z0/\zs.foldl (·*·) z0<=16^zs.length*z0
 | [],z0,h,_=>by simpa using h
 |z::zs,z0,h,hz=>by
  obtain⟨z1,z2⟩:=hz z Bl;obtain⟨h1,h2⟩:=aIr (Int.mul_pos h z1) fun y hy=>hz y (Bi _ hy);rw[Ct,Ac,Int.pow_succ,Int.mul_assoc];refine⟨h1,Cy h2 (Do ?_ (Int.pow_nonneg om))⟩;rw[Int.mul_comm];exact Cq z2 om
theorem aEs{L n:Nat}(hn:11<=n)(hL:2^60<=L){P:List Sys}(hP:cP P)(hv:bR P=true){b:Aut}(hb:AOK b):
  aA env L n 83 [.agg [.d (.ivs P.length (sysD P)),.d (.ivs 1 (jV [b])),.d (.ivs (List.replicate (P.length+1) (0:Int)).length (ints (List.replicate (P.length+1) 0))),nI (parA P),nI 3,nI 0]] []=some (.tup [.d (.str (txt (brkG P b).1)),.d (.bool (brkG P b).2)],[]):=by
 obtain⟨h3,h1,hs⟩:=eT hv;obtain⟨sz0,sz1⟩:=JJ h3 hs;obtain⟨sb,wb,b1,b2,b3⟩:=nN hb;have hzl:=aIh (P:=P) (b:=b)
 have hzp:∀z∈zsP P b,0<z/\z<=16:=by
  intro z hz
  rcases Aq.1 hz with h|h
  ·obtain⟨s,hs2,rfl⟩:=Bv.1 h;obtain⟨_,s1,s2,_,_⟩:=jP.1 (hs s hs2);omega
  ·rw[Cc]at h;omega
 have hpr:∀i,i<=(zsP P b).length->0<((zsP P b).take i).foldl (·*·) 1/\((zsP P b).take i).foldl (·*·) 1<=65536:=by
  intro i hi;obtain⟨p1,p2⟩:=aIr (zs:=(zsP P b).take i) (z0:=1) om fun z hz=>hzp z (List.mem_of_mem_take hz);refine⟨p1,Cy p2 ?_⟩;have hl:((zsP P b).take i).length<=4:=by rw[Cf];omega
  rcases(show((zsP P b).take i).length=0\/((zsP P b).take i).length=1\/((zsP P b).take i).length=2\/((zsP P b).take i).length=3\/((zsP P b).take i).length=4 by omega)with h|h|h|h|h<;>rw[h]<;>decide
 have hzt:(zsP P b).foldl (·*·) 1=cL P*b.nx.length:=by
  unfold zsP;rw[List.foldl_append,List.foldl_map];rfl
 have hp:0<cL P:=H5 om hs;have hpos:0<cL P*b.nx.length:=Int.mul_pos hp om;have et:(((cL P*b.nx.length).toNat:Nat):Int)=cL P*b.nx.length:=Int.toNat_of_nonneg om;have e16:∀i,i<(zsP P b).length->0<(zsP P b).getD i 0/\(zsP P b).getD i 0<=16:=fun i hi=>hzp _ (fV hi);have hlr:(List.replicate (P.length+1) (0:Int)).length=(zsP P b).length:=by rw[hzl,List.length_replicate]
 rw[<-aMb hv hb];refine @aEf L n hn hL P.length 1 (sysD P) (jV [b]) 3 0 (parA P) 0 (List.replicate (P.length+1) 0) (zsP P b) (nxSp P b) (glSp b) (cL P*b.nx.length).toNat om hlr (fun i hi=>⟨by have:=(hpr i hi).1;omega,(hpr i hi).2⟩) (by rw[hzt,et]) (fun z hz=>by have:=hzp z hz;omega) (by rw[<-hzl];exact aJ8 _) (by rw[<-hzl];exact aCj _) (Int.le_refl 0) om (fun {n} hn=> ?_) (fun v l hv hl {R n hq k} hn=> ?_) (fun v hv {R n k} hn=> ?_) (fun v c h0 _ hc=> ?_)
 ·exact @aEL L n hn (netP P b) (by show P.length<=1000;omega) (by show 1<=1000;omega) (fun x hx=>by have h:x∈[b]:=hx;rw[Cc]at h;subst h;omega) hL
 ·have hl2:=kA l hl;have hdl:=zH (zsP P b) v;have hdr:=fun i (hi:i<(zsP P b).length)=>aMC (v:=(v:Int)) (fun z hz=>(hzp z hz).1) om hi;have ga:=L4 hb (l:=l) (mB (v:=(v:Int)) (z:=(b.nx.length:Int)) om om).1 (mB (v:=(v:Int)) (z:=(b.nx.length:Int)) om om).2 hl2.1 om;have key:=cW (E:=env) (call:=aA env L n) (h:=hq) (k:=k) rfl (@aEP L n hn hL P.length 1 (List.replicate (P.length+1) (0:Int)).length (sysD P) (jV [b]) (ints (List.replicate (P.length+1) 0)) (parA P) 3 0 (zsP P b) (decN (zsP P b) v) l (chP P b l v) (fun i=>((zsP P b).take i).foldl (·*·) 1-1) hdl.symm om (fun t ht {R n hq k} hn=> ?_) (fun t ht=>by have:=e16 t om;omega) (fun t ht=> ?_) (fun t ht c hc=> ?_) sm (fun t ht=> ?_)) rfl (.inr rfl)
  ·rw[hdl,nexP]at key;exact key
  ·by_cases htp:t<P.length
   ·rw[aBt htp];exact cW (E:=env) rfl (aAk hn hL (netP P b) t _ l htp (by show P.length<=1000;omega) _ rfl (xE hP htp) hl2.1 om) rfl (.inr rfl)
   ·obtain rfl:t=P.length:=om;rw[aBN,aBA];have r:=mB (v:=(v:Int)) (z:=(b.nx.length:Int)) om om;exact cW (E:=env) rfl (aCe hn (netP P b) P.length _ l (Ad _) (by show P.length-P.length<1;omega) (by show P.length<=1000;omega) (by show 1<=1000;omega) b (by show [b].getD (P.length-P.length) default=b;rw[Cl];rfl) sb wb r.1 r.2 hl2.1 om hL) rfl (.inr rfl)
  ·by_cases htp:t<P.length
   ·rw[aBt htp];have h:=hdr t om
    have e:(zsP P b).getD t 0=(P.getD t default).st:=by
     unfold zsP;rw[hU (by simpa using htp),Ab,Bc,Ae htp,Ab,Ae htp];rfl
    rw[e]at h;exact aF5 (hs _ (GL htp)) h
   ·obtain rfl:t=P.length:=om;rw[aBN];simp
  ·by_cases htp:t<P.length
   ·rw[aBt htp]at hc;have h:=hdr t om
    have e:(zsP P b).getD t 0=(P.getD t default).st:=by
     unfold zsP;rw[hU (by simpa using htp),Ab,Bc,Ae htp,Ab,Ae htp];rfl
    rw[e]at h|-;exact M5 (hs _ (GL htp)) h c hc
   ·obtain rfl:t=P.length:=om;rw[aBN,aBA,Cc]at hc
    have e:(zsP P b).getD P.length 0=b.nx.length:=by
     have h:=@vW Int (P.map (·.st)) (b.nx.length:Int) 0;rw[Aw]at h;exact h
    rw[e,hc];exact ga
  ·have h:=hpr t om;have h2:=hpr (t+1) om;have hk:t<(zsP P b).length:=om
   have e:((zsP P b).take (t+1)).foldl (·*·) 1=((zsP P b).take t).foldl (·*·) 1*(zsP P b).getD t 0:=by
    rw[Dt,Ae hk,List.foldl_append,Ab,Ae hk];rfl
   have hz:=e16 t hk;simp only[e]at h2|-;rw[Int.sub_mul,Int.one_mul];omega
 ·have hdl:=zH (zsP P b) v;have r:=mB (v:=(v:Int)) (z:=(b.nx.length:Int)) om om;have hda:=aBA (P:=P) (b:=b) (v:=(v:Int))
  have hg:aG3 (netP P b) (decN (zsP P b) v) ((movT (nxSp P b) (aG (parA P)) (cL P*b.nx.length).toNat).getD v [])=glSp b v:=by
   show(!(b.ac.getD ((decN (zsP P b) v).getD P.length 0).toNat false))=_;rw[hda];rfl
  have key:=uU (k:=k) (aGn hn (netP P b) (decN (zsP P b) v) ((movT (nxSp P b) (aG (parA P)) (cL P*b.nx.length).toNat).getD v []) (.inr (.inr (.inr rfl))) (by show P.length<=1000;omega) (by show 1<=1000;omega) om ⟨by show 0<1;omega,by show P.length+0<_;omega,by show b.ac.length<=_;omega,by show 0<=(decN (zsP P b) v).getD P.length 0;rw[hda];exact r.1,by show(decN (zsP P b) v).getD P.length 0<(b.ac.length:Int);rw[hda];omega⟩ (fun h=>by rcases h with h|h<;>cases h) hL) rfl;rw[hdl,hg]at key;exact key
 ·have:=kA c hc;rw[et];exact⟨aMG h3 hs h0,NJ hs hb om h0⟩
section
variable{R:Type}{L n:Nat}
def accA(P:List Sys)(i q:Nat)(z:Int):Int:=((P.drop i).take (q-i)).foldl (fun z s=>iOr .i64 z s.al) z
theorem aEz(hn:5<=n)(hL:2^60<=L){P:List Sys}(hP:cP P)(h3:P.length<=3){k:KE R}:∀(j i m:Nat) (z:Int) (hi:i+j=P.length) (hm:j<m),
  aV env (aA env L n) L 0 [] Bz51 (rD 0) (Z1 (U1 (Z2 (Z1 (U16 (U8 (U4 ([])))))))) m (.d (.ivs P.length (sysD P))::Y1 (nI 0::nI z::nI i::Y16 (Y8 (Y4 ([]))))) [] k
  =match seek (uK P) j i with
   |none=>k (.exit 0) (.d (.ivs P.length (sysD P))::Y1 (nI 0::nI ((P.drop i).foldl (fun z s=>iOr .i64 z s.al) z)::nI (P.length)::Y16 (Y8 (Y4 ([]))))) []
   |some q=>k .ret (.d (.ivs P.length (sysD P))::Y1 (nI (-1)::nI (accA P i q z)::nI q::Y16 (Y8 (Y4 ([]))))) []:=by
 intro j
 induction j with
 |zero=>
  intro i m z hi hm;obtain _|m:=m;omega;obtain rfl:i=P.length:=om;rw[Cg]
  simp-implicitDefEqProofs (maxSteps:=9^7) (disch:=try exact Dz) only[↓DN,↓kRet,UP,simprocAttr,Al,jH,iU,Tryz.f55]<;>rfl
 |succ j ih=>
  intro i m z hi hm;obtain _|m:=m;omega;have hk:i<P.length:=om;have hc:(i:Int)<P.length:=om;have hi0:(0:Int)<=i:=om;have g:=mY hk;have g1:=aLx hk;have hes:=xE hP hk;have hno:uK P i= !cF (P.getD i default):=rfl
  cases hz:cF (P.getD i default)with
  |false=>
   rw[hz]at hno;rw[iY hno];have e0:accA P i i z=z:=by unfold accA;rw[Cl];rfl
   have hz2:cF ⟨(P.getD i default).al,(P.getD i default).st,(P.getD i default).es⟩=false:=hz;simp only[e0];clear ih hP hz;generalize P.getD i default=s at *
   simp-implicitDefEqProofs (maxSteps:=9^7) (disch:=try exact Dz) only[↓DN,↓kAsg,↓kRet,UP,simprocAttr,↓vB,NE,Aw,Ba,hc,hi0,g,hz2,jH,iU,Tryz.f55]
  |true=>
   rw[hz]at hno;rw[kS hno];have ih':=ih (i+1) m (iOr .i64 z (P.getD i default).al) om om;rw[cs1 i]at ih';have hz2:cF ⟨(P.getD i default).al,(P.getD i default).st,(P.getD i default).es⟩=true:=hz;rw[bM hk (d:=default),Ct];clear ih hP hz
   cases hsk:seek (uK P) j (i+1)with
   |none=>
    simp only[hsk]at ih'|-;generalize P.getD i default=s at *
    simp-implicitDefEqProofs (maxSteps:=9^7) (disch:=try exact Dz) only[↓DN,↓kRet,UP,simprocAttr,↓vB,NE,Aw,Ba,Bg,hc,hi0,g,g1,hz2,↓ih',jH,iU,Tryz.f55]
   |some q=>
    simp only[hsk]at ih'|-;obtain⟨q1,_,_,_⟩:=HV hsk
    have e1:accA P i q z=accA P (i+1) q (iOr .i64 z (P.getD i default).al):=by
     unfold accA;rw[bM hk (d:=default),show q-i=(q-(i+1))+1 by omega,Ds,Ct]
    rw[e1];generalize P.getD i default=s at *
    simp-implicitDefEqProofs (maxSteps:=9^7) (disch:=try exact Dz) only[↓DN,↓kRet,UP,simprocAttr,↓vB,NE,Aw,Ba,Bg,hc,hi0,g,g1,hz2,↓ih',jH,iU,Tryz.f55]
theorem rH(hn:6<=n)(P:List Sys)(hP:cP P)(hL:2^60<=L):aA env L n 55 [.d (.ivs P.length (sysD P))] []=some (nI (if bR P=true then parA P else -1),[]):=by
 have hP1:=hP.1;unfold bR;rw[<-RK]
 by_cases h1:1<=P.length
 ·have h1':(1:Int)<=P.length:=om;have h1'':¬(P.length:Int)<1:=om
  by_cases h3:P.length<=3
  ·have h3':(P.length:Int)<=3:=om;have h3'':¬3<(P.length:Int):=om;have loop_a:=fun {R n k} hn=> @aEz R L n hn hL P hP h3 k P.length 0 L 0 om om;rw[Ay]at loop_a;simp only[Av]at loop_a
   cases hs:seek (uK P) P.length 0 with
   |none=>
    simp only[hs,h1,h3,decide_true,Bm,Option.isNone_none,if_true]at loop_a|-;unfold parA;obtain _|n:=n;omega
    simp-implicitDefEqProofs (maxSteps:=9^7) (disch:=try exact Dz) only[↓DN,↓kAsg,↓kRet,UP,simprocAttr,h1'',h3'',↓loop_a,lQ,j3,Tryz.f55]
   |some q=>
    simp only[hs,h1,h3,decide_true,Bm,Option.isNone_some,Ca,Aj,if_false]at loop_a|-;obtain _|n:=n;omega
    simp-implicitDefEqProofs (maxSteps:=9^7) (disch:=try exact Dz) only[↓DN,↓kAsg,↓kRet,UP,simprocAttr,h1'',h3'',↓loop_a,lQ,j3,Tryz.f55]
  ·have h3':¬(P.length:Int)<=3:=om;have h3'':3<(P.length:Int):=om;simp only[h1,h3,decide_true,decide_false,Ca,Bn,Aj,if_false];obtain _|n:=n;omega
   simp-implicitDefEqProofs (maxSteps:=9^7) (disch:=try exact Dz) only[↓DN,↓kAsg,↓kRet,UP,simprocAttr,h1'',h3'',lQ,j3,Tryz.f55]
 ·have h1':¬(1:Int)<=P.length:=om;have h1'':(P.length:Int)<1:=om;simp only[h1,decide_false,Bn,Aj,if_false];obtain _|n:=n;omega
  simp-implicitDefEqProofs (maxSteps:=9^7) (disch:=try exact Dz) only[↓DN,↓kAsg,↓kRet,UP,simprocAttr,h1'',lQ,j3,Tryz.f55]
theorem cS:type_of% fun {L} P hP hL=>ks fun hn=> @rH L _ hn P hP hL:=fun {L} P hP hL=>ks fun hn=> @rH L _ hn P hP hL
theorem Q5{k:A->Option R}(hn:6<=n)(P:List Sys)(hP:cP P)(hL:2^60<=L):uI (aA env L n) 55 [.d (.ivs P.length (sysD P))] k=k (nI (if bR P=true then parA P else -1)):=
 uU (rH hn P hP hL) rfl
end
section
variable{R:Type}{L n:Nat}
def vioG(P:List Sys)(b:Aut):List Int×Bool:=if(bR P&&iT b.al b.nx b.ac)=true then brkG P b else([],false)
def sD(P:List Sys)(b:Aut):Bool:=bR P&&iT b.al b.nx b.ac&& !(vioG P b).2
theorem y5(hn:15<=n)(P:List Sys)(b:Aut)(hP:cP P)(sb:bD b.nx)(hac:b.ac.length<=4294967296)(hL:2^60<=L):aA env L n 29 [.d (.ivs P.length (sysD P)),.agg [nI b.al,.d (.ivs b.nx.length (aN b.nx)),.d (.ivs b.ac.length (aK b.ac))]] []=some (.tup [.d (.str (txt (vioG P b).1)),.d (.bool (vioG P b).2)],[]):=by
 unfold vioG
 cases hv:bR P with
 |false=>
  simp only[Bn,Aj,if_false,txt,Ak];obtain _|n:=n;omega
  simp-implicitDefEqProofs (maxSteps:=9^7) (disch:=try exact Dz) only[↓DN,↓kAsg,↓kRet,UP,simprocAttr,↓dM,hv,pQ,lS,Tryz.f29]
 |true=>
  cases ha:iT b.al b.nx b.ac with
  |false=>
   simp only[Ca,Aj,if_false,txt,Ak];obtain _|n:=n;omega
   simp-implicitDefEqProofs (maxSteps:=9^7) (disch:=try exact Dz) only[↓DN,↓kAsg,↓kRet,UP,simprocAttr,↓dM,↓dZ,hv,ha,pQ,lS,Tryz.f29]
  |true=>
   simp only[Bm,if_true];have kl_b:=fun {R:Type} {n:Nat} {k:A->Option R} (hn:14<=n)=>uU (call:=aA env L n) (k:=k) (f:=82) (@YG L n hn hL P hP hv b ha) rfl;have kv_l:=fun {R:Type} {n:Nat} {hq:H} {args:List A} {k:KA R}=>d7 (E:=env) (call:=aA env L n) (h:=hq) (k:=k) (args:=args) qQ;generalize brkG P b=r at *;obtain _|n:=n;omega
   simp-implicitDefEqProofs (maxSteps:=9^7) (disch:=try exact Dz) only[↓DN,↓kAsg,↓kRet,UP,simprocAttr,↓dM,↓dZ,hv,ha,↓kv_l,↓kl_b,pQ,lS,Tryz.f29]
theorem PJ:type_of% fun {L} P b hP sb hac hL=>kt fun hn=> @y5 L _ hn P b hP sb hac hL:=fun {L} P b hP sb hac hL=>kt fun hn=> @y5 L _ hn P b hP sb hac hL
theorem KK(hn:16<=n)(P:List Sys)(b:Aut)(hP:cP P)(sb:bD b.nx)(hac:b.ac.length<=4294967296)(hL:2^60<=L):aA env L n 24 [.d (.ivs P.length (sysD P)),.agg [nI b.al,.d (.ivs b.nx.length (aN b.nx)),.d (.ivs b.ac.length (aK b.ac))]] []=some (.d (.bool (sD P b)),[]):=by
 unfold sD;have kl_b:=@PJ L P b hP sb hac hL;have kv_l:=fun {R:Type} {n:Nat} {hq:H} {args:List A} {k:KA R}=>d7 (E:=env) (call:=aA env L n) (h:=hq) (k:=k) (args:=args) m9;generalize vioG P b=r at *
 cases hv:bR P with
 |false=>
  simp only[Bn];obtain _|n:=n;omega
  simp-implicitDefEqProofs (maxSteps:=9^7) (disch:=try exact Dz) only[↓DN,↓kAsg,↓kRet,UP,simprocAttr,↓dM,hv,↓kv_l,↓kl_b,zW,uQ,Tryz.f24]
 |true=>
  cases ha:iT b.al b.nx b.ac with
  |false=>
   simp only[Ca,Bn];obtain _|n:=n;omega
   simp-implicitDefEqProofs (maxSteps:=9^7) (disch:=try exact Dz) only[↓DN,↓kAsg,↓kRet,UP,simprocAttr,↓dM,↓dZ,hv,ha,↓kv_l,↓kl_b,zW,uQ,Tryz.f24]
  |true=>
   simp only[Bm,Cu];obtain _|n:=n;omega
   simp-implicitDefEqProofs (maxSteps:=9^7) (disch:=try exact Dz) only[↓DN,↓kAsg,↓kRet,UP,simprocAttr,↓dM,↓dZ,hv,ha,↓kv_l,↓kl_b,zW,uQ,Tryz.f24]
theorem K7:type_of% fun {L} P b hP sb hac hL=>kt fun hn=> @KK L _ hn P b hP sb hac hL:=fun {L} P b hP sb hac hL=>kt fun hn=> @KK L _ hn P b hP sb hac hL
theorem yR(hn:12<=n)(P:List Sys)(b:Aut)(hP:cP P)(sb:bD b.nx)(hac:b.ac.length<=4294967296)(hL:2^60<=L):aA env L n 30 [.d (.ivs P.length (sysD P)),.agg [nI b.al,.d (.ivs b.nx.length (aN b.nx)),.d (.ivs b.ac.length (aK b.ac))]] []=some (.tup [.d (.str (txt (vioG P b).1)),.d (.bool (vioG P b).2)],[]):=by
 have hP1:=hP.1;unfold vioG
 cases hv:bR P with
 |false=>
  simp only[Bn,Aj,if_false,txt,Ak];obtain _|n:=n;omega
  simp-implicitDefEqProofs (maxSteps:=9^7) (disch:=try exact Dz) only[↓DN,↓kAsg,↓kRet,UP,simprocAttr,↓cS,hv,pS,mA,Tryz.f30]
 |true=>
  obtain⟨r0,r1⟩:=GG hv;have r2:¬parA P<0:=om;obtain⟨h3,h1,hs⟩:=eT hv
  cases ha:iT b.al b.nx b.ac with
  |false=>
   simp only[Ca,Aj,if_false,txt,Ak];obtain _|n:=n;omega
   simp-implicitDefEqProofs (maxSteps:=9^7) (disch:=try exact Dz) only[↓DN,↓kAsg,↓kRet,UP,simprocAttr,↓cS,↓dY,hv,ha,r2,pS,mA,Tryz.f30]
  |true=>
   simp only[Bm,if_true];have kl_b:=fun {R:Type} {n:Nat} {k:A->Option R} (hn:11<=n)=>uU (call:=aA env L n) (k:=k) (f:=83) (@aEs L n hn hL P hP hv b ha) rfl;have kv_l:=fun {R:Type} {n:Nat} {hq:H} {args:List A} {k:KA R}=>d7 (E:=env) (call:=aA env L n) (h:=hq) (k:=k) (args:=args) zD;have e1:((P.length:Int)+1).toNat=P.length+1:=om;have e2:(0:Int)<=(P.length:Int)+1:=om;have e3:(P.length:Int)+1<=4294967296:=om;have hw1:IntKind.i64.wrap ((P.length:Int)+1)=(P.length:Int)+1:=dW om om;simp only[Dr,Ac,List.length_replicate,jV]at kl_b;generalize brkG P b=r at *;clear hs;obtain _|n:=n;omega
   simp-implicitDefEqProofs (maxSteps:=9^7) (disch:=try exact Dz) only[↓DN,↓kAsg,↓kRet,UP,simprocAttr,↓cS,↓dY,hv,ha,r2,↓AN,e1,hw1,↓kv_l,↓kl_b,List.length_replicate,pS,mA,Tryz.f30]
theorem PO:type_of% fun {L} P b hP sb hac hL=>kt fun hn=> @yR L _ hn P b hP sb hac hL:=fun {L} P b hP sb hac hL=>kt fun hn=> @yR L _ hn P b hP sb hac hL
theorem KY(hn:13<=n)(P:List Sys)(b:Aut)(hP:cP P)(sb:bD b.nx)(hac:b.ac.length<=4294967296)(hL:2^60<=L):aA env L n 58 [.d (.ivs P.length (sysD P)),.agg [nI b.al,.d (.ivs b.nx.length (aN b.nx)),.d (.ivs b.ac.length (aK b.ac))]] []=some (.d (.bool (sD P b)),[]):=by
 unfold sD;have kl_b:=@PO L P b hP sb hac hL;have kv_l:=fun {R:Type} {n:Nat} {hq:H} {args:List A} {k:KA R}=>d7 (E:=env) (call:=aA env L n) (h:=hq) (k:=k) (args:=args) nG;generalize vioG P b=r at *
 cases hv:bR P with
 |false=>
  simp only[Bn];obtain _|n:=n;omega
  simp-implicitDefEqProofs (maxSteps:=9^7) (disch:=try exact Dz) only[↓DN,↓kAsg,↓kRet,UP,simprocAttr,↓cS,hv,↓kv_l,↓kl_b,zT,uE,Tryz.f58]
 |true=>
  obtain⟨r0,r1⟩:=GG hv;have r2:¬parA P<0:=om
  cases ha:iT b.al b.nx b.ac with
  |false=>
   simp only[Ca,Bn];obtain _|n:=n;omega
   simp-implicitDefEqProofs (maxSteps:=9^7) (disch:=try exact Dz) only[↓DN,↓kAsg,↓kRet,UP,simprocAttr,↓cS,↓dY,hv,ha,r0,↓kv_l,↓kl_b,zT,uE,Tryz.f58]
  |true=>
   simp only[Bm,Cu];obtain _|n:=n;omega
   simp-implicitDefEqProofs (maxSteps:=9^7) (disch:=try exact Dz) only[↓DN,↓kAsg,↓kRet,UP,simprocAttr,↓cS,↓dY,hv,ha,r0,↓kv_l,↓kl_b,zT,uE,Tryz.f58]
theorem aCb:type_of% fun {L} P b hP sb hac hL=>kt fun hn=> @KY L _ hn P b hP sb hac hL:=fun {L} P b hP sb hac hL=>kt fun hn=> @KY L _ hn P b hP sb hac hL
end
theorem YV{L n:Nat}(hn:7<=n)(al st a b c:Int)(l:List Edge)(hl:l.length<=4294967296)(hL:2^60<=L)(h1:cF ⟨al,st,l⟩=true)(h2:hitE l ⟨a,b,c⟩=true):aA env L n 26 [.agg [nI al,nI st,.d (.ivs l.length (aJ l))],.agg [nI a,nI b,nI c]] []=some (.tup [.agg [nI al,nI st,.d (.ivs (l.take (bsE l ⟨a,b,c⟩)++l.drop (bsE l ⟨a,b,c⟩+1)).length (aJ (l.take (bsE l ⟨a,b,c⟩)++l.drop (bsE l ⟨a,b,c⟩+1))))],.d (.bool true)],[]):=by
 have h3:bsE l ⟨a,b,c⟩<l.length:=by
  unfold hitE at h2;simp only[Ap,decide_eq_true_eq]at h2;exact h2.1
 have e1:((bsE l ⟨a,b,c⟩:Nat):Int)+1=((bsE l ⟨a,b,c⟩+1:Nat):Int):=rfl;obtain _|n:=n;omega
 simp-implicitDefEqProofs (maxSteps:=9^7) (disch:=try exact Dz) only[↓DN,↓kAsg,↓kRet,UP,simprocAttr,↓GH,↓xS,LE,↓aHt,↓lF,↓wI,h1,h2,e1,aEe,RQ,Tryz.f26]
theorem JE{R:Type}{L n:Nat}{hq:H}{k:KA R}(hn:7<=n)(al st a b c:Int)(l:List Edge)(hl:l.length<=4294967296)(hL:2^60<=L)(h1:cF ⟨al,st,l⟩=true)(h2:hitE l ⟨a,b,c⟩=true):
  aU env (aA env L n) hq 26 [.agg [nI al,nI st,.d (.ivs l.length (aJ l))],.agg [nI a,nI b,nI c]] k
  =k (.tup [.agg [nI al,nI st,.d (.ivs (l.take (bsE l ⟨a,b,c⟩)++l.drop (bsE l ⟨a,b,c⟩+1)).length (aJ (l.take (bsE l ⟨a,b,c⟩)++l.drop (bsE l ⟨a,b,c⟩+1))))],.d (.bool true)]) hq:=
 cW rfl (YV hn al st a b c l hl hL h1 h2) rfl (.inr rfl)
def src(c:List UInt8):List UInt8:=if 2000<c.length then c.take 2000 else c
theorem aO7(c:List UInt8):(src c).length<=2000:=by
 unfold src;split
 ·rw[Cf];omega
 ·omega
theorem aJ4:(env.hint 70).mode=2:=kr
theorem aOa{L n:Nat}(hn:1<=n)(c0:List UInt8)(hc:c0.length<=4294967296):aA env L n 70 [.d (.ivs c0.length (bE c0))] []=some (.ptr 0 0 0,[O.box [A.d (D.ivs (src c0).length (bE (src c0))),A.d (D.int .i64 0)]]):=by
 unfold src
 by_cases h:(2000:Int)<c0.length
 ·have h':2000<c0.length:=om;obtain _|n:=n;omega
  simp-implicitDefEqProofs (maxSteps:=9^7) (disch:=try exact Dz) only[↓DN,↓kAsg,↓kRet,UP,simprocAttr,h,h',RE,JZ,Tryz.f70]
 ·have h':¬2000<c0.length:=om;obtain _|n:=n;omega
  simp-implicitDefEqProofs (maxSteps:=9^7) (disch:=try exact Dz) only[↓DN,↓kAsg,↓kRet,UP,simprocAttr,h,h',RE,JZ,Tryz.f70]
section
def More(c1 c2:aW):Prop:=∀f args h r,c1 f args h=some r->c2 f args h=some r
section
variable{E:Env}{c1 c2:aW}(hc:More c1 c2)
include hc
theorem aAe{hint:FuncId->Hint}{h:H}{f:FuncId}{args:List A}{r:A×H}(he:bJ c1 hint h f args=some r):bJ c2 hint h f args=some r:=by
 unfold bJ at he|-;generalize(hint f).mode=m at *
 have key:∀(fs:List A) (g:Option (A×H)->Option (A×H)),g none=none->g (c1 f fs [])=some r->g (c2 f fs [])=some r:=by
  intro fs g h0 h1
  cases h2:c1 f fs []with
  |none=>rw[h2,h0]at h1;cases h1
  |some q=>rw[h2]at h1;rw[hc _ _ _ _ h2];exact h1
 match m with
 |0=>exact hc _ _ _ _ he
 |1=>
  simp only at he|-
  cases hf:fA h args with
  |none=>rw[hf]at he;cases he
  |some q=>rw[hf]at he;exact key q.1 (fun o=>match o with|some (r,[])=>if iC r then some (r,h)else none|_=>none) rfl he
 |3=>
  simp only at he|-
  cases hf:fA h args with
  |none=>rw[hf]at he;cases he
  |some q=>rw[hf]at he;exact key q.1 (fun o=>match o with|some (r,h2)=>if oR r&&h2.all m8 then some (mapA (back [] h.length h2.length) r,h++h2.map (mapO (back [] h.length h2.length)))else none|none=>none) rfl he
 |2=>
  simp only at he|-
  cases hf:fA h args with
  |none=>rw[hf]at he;cases he
  |some q=>rw[hf]at he;exact key q.1 (fun o=>match o with|some (r,[])=>some (r,q.2)|some (r,h2)=>some (mapA (back [] q.2.length h2.length) r,q.2++h2.map (mapO (back [] q.2.length h2.length)))|none=>none) rfl he
 |m+4=>
  simp only at he|-
  cases hf:fA h args with
  |none=>rw[hf]at he;cases he
  |some q=>rw[hf]at he;exact key q.1 (fun o=>match o with|some (r,[])=>some (r,q.2)|some (r,h2)=>some (mapA (back [] q.2.length h2.length) r,q.2++h2.map (mapO (back [] q.2.length h2.length)))|none=>none) rfl he
theorem aE6{hint:FuncId->Hint}{h:H}{c:A}{args:List A}{r:A×H}(he:fS c1 hint h c args=some r):fS c2 hint h c args=some r:=by
 unfold fS at he|-
 split at he
 ·exact aAe hc he
 ·exact aAe hc he
 ·cases he
theorem aEy{h:H}{c:Callee}{tys:List TypeId}{vs:List A}{r:A×H}(he:fE E c1 h c tys vs=some r):fE E c2 h c tys vs=some r:=by
 unfold fE at he|-
 split at he
 ·split at he
  ·exact aE6 hc he
  ·cases he
 ·exact he
 ·cases he
theorem IN{thaw:List Nat}{h:H}{o:Oper}{vs:List A}{r:A×H}(he:evOp E c1 thaw h o vs=some r):evOp E c2 thaw h o vs=some r:=by
 unfold evOp at he|-
 split at he<;>first|exact aEy hc he|exact he
theorem YX{thaw:List Nat}{h:H}{o:Oper}{vs:List A}{r:A×H×List Nat×Nat}(he:iP E c1 thaw h o vs=some r):iP E c2 thaw h o vs=some r:=by
 unfold iP at he|-;simp only at he|-
 split at he
 ·rename_i a h1 h2
  rw[IN hc h2];exact he
 ·cases he
theorem aHG{thaw:List Nat}{ops:List Oper}{o:Oper}{s:List A}{h:H}{r:List A×H}(he:AY E c1 thaw ops o s h=some r):AY E c2 thaw ops o s h=some r:=by
 unfold AY at he|-
 cases hw:qH ops s o with
 |none=>rw[hw]at he;cases he
 |some b=>
  rw[hw]at he
  cases b with
  |false=>exact he
  |true=>
   simp only at he|-
   cases hv:bP s (opds o.op)with
   |none=>rw[hv]at he;cases he
   |some vs=>
    rw[hv]at he;simp only at he|-
    by_cases hi:tQ o.op=true
    ·rw[if_pos hi]at he|-
     cases hf:iP E c1 thaw h o vs with
     |none=>rw[hf]at he;cases he
     |some q=>rw[hf]at he;rw[YX hc hf];exact he
    ·rw[if_neg hi]at he|-
     cases hf:evOp E c1 thaw h o vs with
     |none=>rw[hf]at he;cases he
     |some q=>rw[hf]at he;rw[IN hc hf];exact he
theorem aAn{thaw:List Nat}{ops:List Oper}:∀ {os:List Oper} {s:List A} {h:H} {r:List A×H},x6 E c1 thaw ops os s h=some r->x6 E c2 thaw ops os s h=some r
 | [],s,h,r,he=>he
 |o::os,s,h,r,he=>by
  unfold x6 at he|-
  cases hs:AY E c1 thaw ops o s h with
  |none=>rw[hs]at he;cases he
  |some q=>rw[hs]at he;rw[aHG hc hs];exact aAn he
theorem aGG{thaw:List Nat}{ops:List Oper}{o:Oper}{s:List A}{h:H}{r:List A×H×Foot}(he:vT E c1 thaw ops o s h=some r):vT E c2 thaw ops o s h=some r:=by
 unfold vT at he|-
 cases hw:qH ops s o with
 |none=>rw[hw]at he;cases he
 |some b=>
  rw[hw]at he
  cases b with
  |false=>exact he
  |true=>
   simp only at he|-
   cases hv:bP s (opds o.op)with
   |none=>rw[hv]at he;cases he
   |some vs=>
    rw[hv]at he;simp only at he|-
    by_cases hi:oU o.op=true
    ·rw[if_pos hi]at he|-
     cases hf:evOp E c1 thaw h o vs with
     |none=>rw[hf]at he;cases he
     |some q=>rw[hf]at he;rw[IN hc hf];exact he
    ·rw[if_neg hi]at he|-
     by_cases hj:pK o.op=true
     ·rw[if_pos hj]at he|-
      cases hf:evOp E c1 thaw h o vs with
      |none=>rw[hf]at he;cases he
      |some q=>rw[hf]at he;rw[IN hc hf];exact he
     rw[if_neg hj]at he|-
     cases hf:iP E c1 thaw h o vs with
     |none=>rw[hf]at he;cases he
     |some q=>rw[hf]at he;rw[YX hc hf];exact he
theorem VJ{thaw:List Nat}{ops:List Oper}:∀ {os:List Oper} {s:List A} {h:H} {r:List A×H×List Foot},kP E c1 thaw ops os s h=some r->kP E c2 thaw ops os s h=some r
 | [],s,h,r,he=>he
 |o::os,s,h,r,he=>by
  unfold kP at he|-
  cases hs:vT E c1 thaw ops o s h with
  |none=>rw[hs]at he;cases he
  |some q=>
   rw[hs]at he;rw[aGG hc hs];simp only at he|-
   cases h2:kP E c1 thaw ops os q.1 q.2.1 with
   |none=>rw[h2]at he;cases he
   |some z=>rw[h2]at he;rw[VJ h2];exact he
theorem aD9{thaw:List Nat}{ops:Array Oper}{draw:Bool}{s:List A}{h:H}{r:List A×H}(he:mD E c1 thaw ops draw s h=some r):mD E c2 thaw ops draw s h=some r:=by
 unfold mD at he|-
 by_cases hd:draw=true
 ·rw[if_pos hd]at he|-
  cases ho:kP E c1 thaw ops.toList ops.toList s h with
  |none=>rw[ho]at he;cases he
  |some q=>rw[ho]at he;rw[VJ hc ho];exact he
 ·rw[if_neg hd]at he|-;exact aAn hc he
end
theorem VN{b1 b2:List A->H->Option (Exit×List A×H)}(hb:∀s h r,b1 s h=some r->b2 s h=some r){nf:Nat}{m:List Bool}:∀ {n1 n2:Nat} {s:List A} {h:H} {r:Exit×List A×H},n1<=n2->qL b1 nf m n1 s h=some r->qL b2 nf m n2 s h=some r
 |0,n2,s,h,r,_,he=>by simp[qL]at he
 |n1+1,0,s,h,r,hn,he=>by omega
 |n1+1,n2+1,s,h,r,hn,he=>by
  unfold qL at he|-
  cases hs:b1 s h with
  |none=>rw[hs]at he;cases he
  |some q=>
   rw[hs]at he;rw[hb _ _ _ hs];obtain⟨e,s1,h1⟩:=q
   cases e with
   |normal=>exact VN hb om he
   |_=>exact he
theorem aHf{E:Env}{c1 c2:aW}(hc:More c1 c2){L1 L2 nf:Nat}(hL:L1<=L2){thaw:List Nat}{live:List Bool}:∀(c:Code) {s:List A} {h:H} {r:Exit×List A×H},bS E c1 L1 nf thaw live c s h=some r->bS E c2 L2 nf thaw live c s h=some r:=by
 intro c
 induction c with
 |region i ops draw=>
  intro s h r he;unfold bS at he|-
  cases hr:mD E c1 thaw ops draw s h with
  |none=>rw[hr]at he;cases he
  |some q=>rw[hr]at he;rw[aD9 hc hr];exact he
 |seq a b iha ihb=>
  intro s h r he;unfold bS at he|-
  cases ha:bS E c1 L1 nf thaw live a s h with
  |none=>rw[ha]at he;cases he
  |some q=>
   rw[ha]at he;rw[iha ha];obtain⟨e,s1,h1⟩:=q
   cases e with
   |normal=>exact ihb he
   |_=>exact he
 |cond x a b iha ihb=>
  intro s h r he;unfold bS at he|-
  cases hv:dB s x with
  |none=>rw[hv]at he;cases he
  |some v=>
   rw[hv]at he
   cases v with
   |d y=>
    cases y with
    |bool b=>
     cases b with
     |true=>exact iha he
     |false=>exact ihb he
    |_=>cases he
   |_=>cases he
 |block i a iha=>
  intro s h r he;unfold bS at he|-
  cases ha:bS E c1 L1 nf thaw live a s h with
  |none=>rw[ha]at he;cases he
  |some q=>rw[ha]at he;rw[iha ha];exact he
 |loop a iha=>
  intro s h r he;unfold bS at he|-;exact VN (fun s h r=>iha) hL he
 |_=>intro s h r he;simp only[bS]at he|-;first|exact he|cases he
theorem aHx{E:Env}{c1 c2:aW}(hc:More c1 c2){L1 L2:Nat}(hL:L1<=L2){f:FuncId}{fn:Func}{c:Code}{args:List A}{h:H}{r:A×H}(he:FT E c1 L1 f fn c args h=some r):FT E c2 L2 f fn c args h=some r:=by
 unfold FT at he|-
 split at he
 ·rename_i e s h1 hcd
  rw[aHf hc hL c hcd];exact he
 ·cases he
theorem tF{E:Env}{L1 L2:Nat}(hL:L1<=L2):∀ {n1 n2:Nat},n1<=n2->More (aA E L1 n1) (aA E L2 n2)
 |0,n2,_=>by intro f args h r he;simp[aA]at he
 |n1+1,0,hn=>by omega
 |n1+1,n2+1,hn=>by
  intro f args h r he;have ih:=tF (E:=E) hL (n1:=n1) (n2:=n2) om;unfold aA at he|-
  cases hp:E.prim f with
  |some g=>rw[hp]at he;exact he
  |none=>
   rw[hp]at he;simp only at he|-
   cases hf:E.P.funcs[f]? with
   |none=>rw[hf]at he;cases he
   |some fn=>
    rw[hf]at he;simp only at he|-
    cases hb:fn.body with
    |none=>rw[hb]at he;cases he
    |some c=>
     rw[hb]at he;simp only at he|-
     by_cases hnm : (fn.name == "runtime.NumGoroutine") = true
     ·rw[if_pos hnm]at he;cases he
     ·rw[if_neg hnm]at he|-;exact aHx ih hL he
end
def eE(l:List Edge):Nat:=if l=[]then 0 else 3
theorem EG{l:List Edge}{x:Edge}:eE (l++[x])=3:=by simp[eE]
theorem xP(l:List Edge):eE l=0\/eE l=3:=by unfold eE;split<;>simp
theorem SX{c:List UInt8}(hc:c.length<=2000){al st few f i:Int}{ls:List Int}(hi0:0<=i)(hi1:i<ls.length)(hls:ls.length<=6):∀(j:Nat) (t p:Int) (es:List Edge) (len e:Nat) (hlen:len=es.length) (he:e=eE es) (h0:0<=t) (hi:t+j=st) (hst:st<=100) (hl:es.length+j<=100000) (hp:0<=p) (hp2:p+j<=900000000),
  ∃(es2:List Edge) (q:Int),es2.length<=es.length+j/\p<=q/\q<=p+j/\∀(R:Type) (L n m:Nat) (k:KE R),2<=n->2^60<=L->j<m->
  aV env (aA env L n) L 1 [] Bz10 (j1 2) (Z1 (U1 (Z2 (U4 (Z4 (Z2 (U32 (U4 (U2 ([])))))))))) m (.ptr 0 0 0::Y1 (nI st::nI few::Y4 (.ptr 1 0 0::.ptr 2 0 0::.d (.ivs ls.length (ints ls))::nI f::nI i::nI t::Y32 (Y4 (Y2 ([])))))) [rdO c p,.box [nI 0,nI 0,.sl 3 0 0 0],.box [nI al,nI st,.sl 4 0 0 len],.arr [] 0 0,.arr (aJ es) e 0] k
  =k (.exit 4) (.ptr 0 0 0::Y1 (nI st::nI few::Y4 (.ptr 1 0 0::.ptr 2 0 0::.d (.ivs ls.length (ints ls))::nI f::nI i::nI st::Y32 (Y4 (Y2 ([])))))) [rdO c q,.box [nI 0,nI 0,.sl 3 0 0 0],.box [nI al,nI st,.sl 4 0 0 es2.length],.arr [] 0 0,.arr (aJ es2) (eE es2) 0]:=by
 intro j
 induction j with
 |zero=>
  intro t p es len e hlen he h0 hi hst hl hp hp2;obtain rfl:t=st:=om;refine⟨es,p,by omega,by omega,by omega,fun R L n m k hn hL hm=> ?_⟩;obtain _|m:=m;omega;subst hlen;subst he
  simp-implicitDefEqProofs (maxSteps:=9^7) (disch:=try exact Dz) only[↓DN,↓kRet,UP,simprocAttr,Al,mN,mZ,Tryz.f209]
 |succ j ih=>
  intro t p es len e hlen he h0 hi hst hl hp hp2;have hlt:t<st:=om;have hk:i.toNat<ls.length:=om;obtain⟨v,v0,_,_,kd⟩:=bN hc p few hp om;subst hlen
  by_cases hv:v=0
  ·obtain⟨es2,q,g1,g2,g3,kd2⟩:=ih (t+1) (p+1) (es++[⟨f,ls.getD i.toNat 0,t⟩]) (es.length+1) 3 sm EG.symm om om hst (by simp;omega) om om;refine⟨es2,q,by simp at g1;omega,by omega,by omega,fun R L n m k hn hL hm=> ?_⟩;obtain _|m:=m;omega
   rcases xP es with h1|h1
   ·have he0:e=0:=om;subst he0
    simp-implicitDefEqProofs (maxSteps:=9^7) (disch:=try exact Dz) only[↓DN,↓kRet,UP,simprocAttr,LE,hlt,↓kd,hv,↓kd2,mN,mZ,Tryz.f209]
   ·have he0:e=3:=om;subst he0
    simp-implicitDefEqProofs (maxSteps:=9^7) (disch:=try exact Dz) only[↓DN,↓kRet,UP,simprocAttr,LE,hlt,↓kd,hv,↓kd2,mN,mZ,Tryz.f209]
  ·obtain⟨es2,q,g1,g2,g3,kd2⟩:=ih (t+1) (p+1) es es.length e rfl he om om hst om om om;refine⟨es2,q,by omega,by omega,by omega,fun R L n m k hn hL hm=> ?_⟩;obtain _|m:=m;omega
   simp-implicitDefEqProofs (maxSteps:=9^7) (disch:=try exact Dz) only[↓DN,↓kRet,UP,simprocAttr,hlt,↓kd,hv,↓kd2,mN,mZ,Tryz.f209]
theorem RT{c:List UInt8}(hc:c.length<=2000){al st few f:Int}{ls:List Int}(hst0:0<=st)(hst:st<=100)(hls:ls.length<=6):∀(j:Nat) (i p:Int) (es:List Edge) (len e:Nat) (hlen:len=es.length) (he:e=eE es) (h0:0<=i) (hi:i+j=ls.length) (hl:es.length+j*100<=90000) (hp:0<=p) (hp2:p+j*100<=800000000),
  ∃(es2:List Edge) (q:Int),es2.length<=es.length+j*100/\p<=q/\q<=p+j*100/\∀(R:Type) (L n m:Nat) (k:KE R),2<=n->2^60<=L->j<m->
  aV env (aA env L n) L 1 [] Bz10 (j1 1) (Z1 (U1 (Z2 (U4 (Z4 (Z1 (U32 (U4 (U2 (U1 ([]))))))))))) m (.ptr 0 0 0::Y1 (nI st::nI few::Y4 (.ptr 1 0 0::.ptr 2 0 0::.d (.ivs ls.length (ints ls))::nI f::nI i::Y32 (Y4 (Y2 (Y1 ([]))))))) [rdO c p,.box [nI 0,nI 0,.sl 3 0 0 0],.box [nI al,nI st,.sl 4 0 0 len],.arr [] 0 0,.arr (aJ es) e 0] k
  =k (.exit 2) (.ptr 0 0 0::Y1 (nI st::nI few::Y4 (.ptr 1 0 0::.ptr 2 0 0::.d (.ivs ls.length (ints ls))::nI f::nI (ls.length)::Y32 (Y4 (Y2 (Y1 ([]))))))) [rdO c q,.box [nI 0,nI 0,.sl 3 0 0 0],.box [nI al,nI st,.sl 4 0 0 es2.length],.arr [] 0 0,.arr (aJ es2) (eE es2) 0]:=by
 intro j
 induction j with
 |zero=>
  intro i p es len e hlen he h0 hi hl hp hp2;obtain rfl:i=ls.length:=om;refine⟨es,p,by omega,by omega,by omega,fun R L n m k hn hL hm=> ?_⟩;obtain _|m:=m;omega;subst hlen;subst he
  simp-implicitDefEqProofs (maxSteps:=9^7) (disch:=try exact Dz) only[↓DN,↓kRet,UP,simprocAttr,Al,DG,zE,Tryz.f209]
 |succ j ih=>
  intro i p es len e hlen he h0 hi hl hp hp2;have hlt:i<ls.length:=om;obtain⟨es1,q1,a1,a2,a3,kd⟩:=SX hc (al:=al) (st:=st) (few:=few) (f:=f) (i:=i) (ls:=ls) h0 hlt hls st.toNat 0 p es len e hlen he om om hst om hp om;obtain⟨es2,q,g1,g2,g3,kd2⟩:=ih (i+1) q1 es1 es1.length (eE es1) rfl rfl om om om om om;refine⟨es2,q,by omega,by omega,by omega,fun R L n m k hn hL hm=> ?_⟩;obtain _|m:=m;omega
  simp-implicitDefEqProofs (maxSteps:=9^7) (disch:=try exact Dz) only[↓DN,↓kAsg,↓kRet,UP,simprocAttr,hlt,↓kd,↓kd2,DG,zE,Tryz.f209]
theorem R7{c:List UInt8}(hc:c.length<=2000){al st few:Int}{ls:List Int}(hst0:0<=st)(hst:st<=100)(hls:ls.length<=6):∀(j:Nat) (f p:Int) (es:List Edge) (len e:Nat) (hlen:len=es.length) (he:e=eE es) (h0:0<=f) (hi:f+j=st) (hl:es.length+j*600<=80000) (hp:0<=p) (hp2:p+j*600<=700000000),
  ∃(es2:List Edge) (q:Int),es2.length<=es.length+j*600/\p<=q/\q<=p+j*600/\∀(R:Type) (L n m:Nat) (k:KE R),2<=n->2^60<=L->j<m->
  aV env (aA env L n) L 1 [] Bz10 (j1 0) (Z1 (U1 (Z2 (U4 (Z4 (U32 (U8 ([])))))))) m (.ptr 0 0 0::Y1 (nI st::nI few::Y4 (.ptr 1 0 0::.ptr 2 0 0::.d (.ivs ls.length (ints ls))::nI f::Y32 (Y8 ([]))))) [rdO c p,.box [nI 0,nI 0,.sl 3 0 0 0],.box [nI al,nI st,.sl 4 0 0 len],.arr [] 0 0,.arr (aJ es) e 0] k
  =k (.exit 0) (.ptr 0 0 0::Y1 (nI st::nI few::Y4 (.ptr 1 0 0::.ptr 2 0 0::.d (.ivs ls.length (ints ls))::nI st::Y32 (Y8 ([]))))) [rdO c q,.box [nI 0,nI 0,.sl 3 0 0 0],.box [nI al,nI st,.sl 4 0 0 es2.length],.arr [] 0 0,.arr (aJ es2) (eE es2) 0]:=by
 intro j
 induction j with
 |zero=>
  intro f p es len e hlen he h0 hi hl hp hp2;obtain rfl:f=st:=om;refine⟨es,p,by omega,by omega,by omega,fun R L n m k hn hL hm=> ?_⟩;obtain _|m:=m;omega;subst hlen;subst he
  simp-implicitDefEqProofs (maxSteps:=9^7) (disch:=try exact Dz) only[↓DN,↓kRet,UP,simprocAttr,Al,DD,zI,Tryz.f209]
 |succ j ih=>
  intro f p es len e hlen he h0 hi hl hp hp2;have hlt:f<st:=om;obtain⟨es1,q1,a1,a2,a3,kd⟩:=RT hc (al:=al) (st:=st) (few:=few) (f:=f) (ls:=ls) hst0 hst hls ls.length 0 p es len e hlen he om om om hp om;obtain⟨es2,q,g1,g2,g3,kd2⟩:=ih (f+1) q1 es1 es1.length (eE es1) rfl rfl om om om om om;refine⟨es2,q,by omega,by omega,by omega,fun R L n m k hn hL hm=> ?_⟩;obtain _|m:=m;omega
  simp-implicitDefEqProofs (maxSteps:=9^7) (disch:=try exact Dz) only[↓DN,↓kAsg,↓kRet,UP,simprocAttr,hlt,↓kd,↓kd2,DD,zI,Tryz.f209]
theorem aJp:(env.hint 209).mode=0:=kr
theorem UW{c:List UInt8}(hc:c.length<=2000)(al st few:Int)(hst0:0<=st)(hst:st<=100)(p:Int)(hp:0<=p)(hp2:p<=600000000):∃(es:List Edge) (q:Int),es.length<=60000/\p<=q/\q<=p+60000/\(Dw 4 209 [nI al,nI st,nI few] (.agg [nI al,nI st,.d (.ivs es.length (aJ es))]) c p q):=by
 have hll:=dF al;obtain⟨es,q,g1,g2,g3,kd⟩:=R7 hc (al:=al) (st:=st) (few:=few) (ls:=aG al) hst0 hst hll st.toNat 0 p [] 0 0 rfl rfl om om (by simp;omega) hp om;simp only[cV]at kd;simp only[Aa,Af]at g1;refine⟨es,q,by omega,by omega,by omega,fun R L n hq k hn hL=>aS aJp rfl rfl ?_⟩
 rcases xP es with h1|h1
 ·have he0:es=[]:=by unfold eE at h1;split at h1<;>simp_all
  subst he0;obtain _|n:=n;omega
  simp-implicitDefEqProofs (maxSteps:=9^7) (disch:=try exact Dz) only[↓DN,↓kAsg,↓kRet,UP,simprocAttr,↓bX,↓kd,h1,cV,OX,FU,Tryz.f209]
 ·obtain _|n:=n;omega
  simp-implicitDefEqProofs (maxSteps:=9^7) (disch:=try exact Dz) only[↓DN,↓kAsg,↓kRet,UP,simprocAttr,↓bX,LE,↓kd,h1,OX,FU,Tryz.f209]
def dU(P:List Sys)(pt k:Nat):List Sys:=P.set pt ⟨(P.getD pt default).al,(P.getD pt default).st,(P.getD pt default).es.take k++(P.getD pt default).es.drop (k+1)⟩
def repF(P:List Sys)(b:Aut)(pt i j:Nat):List Edge:=((List.range' i j).filter fun k=>sD (dU P pt k) b).map fun k=>(P.getD pt default).es.getD k default
def D6(P:List Sys)(b:Aut)(pt:Int):Bool:=bR P&&iT b.al b.nx b.ac&&decide (0<=pt)&&decide (pt<P.length)
def repG(P:List Sys)(b:Aut)(pt:Int):List Edge:=if D6 P b pt=true then repF P b pt.toNat 0 (P.getD pt.toNat default).es.length else []
theorem QD{P:List Sys}{b:Aut}{pt i:Nat}:repF P b pt i 0=[]:=rfl
theorem WQ{P:List Sys}{b:Aut}{pt i j:Nat}(h:sD (dU P pt i) b=true):repF P b pt i (j+1)=(P.getD pt default).es.getD i default::repF P b pt (i+1) j:=by
 unfold repF;rw[Dq,Em (p:=fun k=>sD (dU P pt k) b) h,Ag]
theorem NV{P:List Sys}{b:Aut}{pt i j:Nat}(h:sD (dU P pt i) b=false):repF P b pt i (j+1)=repF P b pt (i+1) j:=by
 unfold repF;rw[Dq,El (p:=fun k=>sD (dU P pt k) b) (by rw[h];decide)]
theorem WM{P:List Sys}{b:Aut}{pt i j:Nat}:(repF P b pt i j).length<=j:=by
 unfold repF;rw[Aw];exact Bf (List.length_filter_le _ _) sm
theorem aFl{l:List Edge}(h:sG l){k:Nat}(hk:k<l.length):hitE l (l.getD k default)=true/\bsE l (l.getD k default)=k:=by
 cases hh:hitE l (l.getD k default)with
 |false=>
  have h1:=aMQ h hh;unfold idxE at h1;rw[kF]at h1;have:=h1 k om om;simp at this
 |true=>
  refine⟨rfl,?_⟩;unfold hitE at hh;simp only[Ap,decide_eq_true_eq]at hh;obtain⟨h1,h2⟩:=hh
  rcases Dy (bsE l (l.getD k default)) k with h3|h3|h3
  ·have:=DY h h3 hk;rw[h2,sH]at this;cases this
  ·exact h3
  ·have:=DY h h3 h1;rw[h2,sH]at this;cases this
theorem aBL{P:List Sys}(hP:cP P)(pt k:Nat):cP (dU P pt k):=by
 unfold dU
 by_cases hk:pt<P.length
 ·refine⟨by rw[Be];exact hP.1,fun s hs=> ?_⟩
  rcases Dd hs with h|rfl
  ·exact hP.2 s h
  ·have h2:=xE hP hk;show(_++_:List Edge).length<=_;rw[Ah,Cf,Ba];omega
 ·rw[List.set_eq_of_length_le om];exact hP
theorem S5{P:List Sys}{pt k:Nat}:(dU P pt k).length=P.length:=Be ..
theorem aKc{P:List Sys}{pt k:Nat}{x:Sys}:(P.set pt x).set pt ⟨(P.getD pt default).al,(P.getD pt default).st,(P.getD pt default).es.take k++(P.getD pt default).es.drop (k+1)⟩=dU P pt k:=by
 unfold dU;rw[List.set_set]
theorem aFJ:∀ {a b:List Sys},sysD a++sysD b=sysD (a++b)
 | [],b=>rfl
 |s::a,b=>by
  simp only[sysD,At,aFJ (a:=a)]
theorem aAT:∀ {l:List Sys} {k:Nat},(sysD l).take (k*3)=sysD (l.take k)
 |l,0=>by simp[sysD]
 | [],k+1=>by simp[sysD]
 |p::l,k+1=>by
  rw[Bz,Nat.one_mul];simp only[sysD,Ds];rw[aAT]
theorem aOs{Q:List Sys}{k:Nat}{al st:Int}{es:List Edge}(hk:k<Q.length):a6 (sysD Q) (k*3) [.int .i64 al,.int .i64 st,.ivs es.length (aJ es)]=sysD (Q.set k ⟨al,st,es⟩):=by
 unfold a6;rw[aAT,show([D.int .i64 al,.int .i64 st,.ivs es.length (aJ es)]).length=3 from rfl,show k*3+3=(k+1)*3 by omega,vK,Ej,if_pos hk,<-aFJ];simp[sysD]
theorem EE{Q:List Sys}{k:Nat}{al st:Int}{es:List Edge}(hk:k<Q.length):List.take (k*3) (sysD Q)++[.int .i64 al,.int .i64 st,.ivs es.length (aJ es)]++List.drop (k*3+3) (sysD Q)=sysD (Q.set k ⟨al,st,es⟩):=aOs hk
theorem SW{R:Type}{L n:Nat}(hn:14<=n)(hL:2^60<=L){P:List Sys}{b:Aut}(hP:cP P)(sb:bD b.nx)(hac:b.ac.length<=4294967296){pt:Nat}(hpt:pt<P.length)(h3:P.length<=3){k:KE R}:∀(j i m:Nat) (o:List Edge) (len:Nat) (hi:i+j=(P.getD pt default).es.length) (hm:j<m) (hlen:len=o.length) (ho:o.length+j<=4294967296),
  aV env (aA env L n) L 0 [] Bz30 (u7 0) (Z1 (U1 (Z1 (U1 (Z1 (U1 (Z2 (Z1 (U32 (U16 (U8 (U1 ([]))))))))))))) m (.d (.ivs P.length (sysD P))::Y1 (nI pt::Y1 (.ptr 0 0 0::Y1 (.d .nils::.sl 1 0 0 len::nI i::Y32 (Y16 (Y8 (Y1 ([])))))))) [.box [nI b.al,.d (.ivs b.nx.length (aN b.nx)),.d (.ivs b.ac.length (aK b.ac))],.arr (aJ o) 3 0] k
  =k (.exit 0) (.d (.ivs P.length (sysD P))::Y1 (nI pt::Y1 (.ptr 0 0 0::Y1 (.d .nils::.sl 1 0 0 (o++repF P b pt i j).length::nI ((P.getD pt default).es.length)::Y32 (Y16 (Y8 (Y1 ([])))))))) [.box [nI b.al,.d (.ivs b.nx.length (aN b.nx)),.d (.ivs b.ac.length (aK b.ac))],.arr (aJ (o++repF P b pt i j)) 3 0]:=by
 have hP1:=hP.1;have hes:=xE hP hpt;have hptc:(pt:Int)<P.length:=om;have hpt0:(0:Int)<=pt:=om;have g:=mY hpt;have g2:=aAc hpt;intro j
 induction j with
 |zero=>
  intro i m o len hi hm hlen ho;obtain _|m:=m;omega;obtain rfl:i=(P.getD pt default).es.length:=om;subst hlen;rw[QD,Ai]
  simp-implicitDefEqProofs (maxSteps:=9^7) (disch:=try exact Dz) only[↓DN,↓kRet,UP,simprocAttr,NE,Ba,Bg,hptc,hpt0,g2,Al,oD,mU,Tryz.f11]
 |succ j ih=>
  intro i m o len hi hm hlen ho;obtain _|m:=m;omega;subst hlen;have hk:i<(P.getD pt default).es.length:=om;have hc:(i:Int)<(P.getD pt default).es.length:=om;have hi0:(0:Int)<=i:=om;have hQ:=aBL hP pt i;have hQl:=S5 (P:=P) (pt:=pt) (k:=i);have hst:=@EE P pt (P.getD pt default).al (P.getD pt default).st ((P.getD pt default).es.take i++(P.getD pt default).es.drop (i+1)) hpt;have eQ:P.set pt ⟨(P.getD pt default).al,(P.getD pt default).st,(P.getD pt default).es.take i++(P.getD pt default).es.drop (i+1)⟩=dU P pt i:=rfl;rw[eQ]at hst;have kc_d:=@aGS L (P.getD pt default).al (P.getD pt default).st (P.getD pt default).es i hes hk hL;generalize(P.getD pt default).es.take i++(P.getD pt default).es.drop (i+1)=w at kc_d hst;have hQd:(sysD (dU P pt i)).length=P.length*3:=by rw[kK,hQl]
  have kl_b:=@aCb L (dU P pt i) b hQ sb hac hL;have kv_l:=fun {R:Type} {n:Nat} {hq:H} {args:List A} {k:KA R}=>d7 (E:=env) (call:=aA env L n) (h:=hq) (k:=k) (args:=args) uY;have htk:(sysD (dU P pt i)).take (P.length*3)=sysD (dU P pt i):=qM om;rw[hQl]at kl_b
  cases hg:sD (dU P pt i) b with
  |true=>
   rw[hg]at kl_b;rw[WQ hg];have ih':=ih (i+1) m (o++[(P.getD pt default).es.getD i default]) (o.length+1) om om sm (by rw[Ah,Bu];omega);rw[cs1 i]at ih';simp only[Ao,At,Am]at ih';clear ih hP hQ;generalize dU P pt i=Q at *
   simp-implicitDefEqProofs (maxSteps:=9^7) (disch:=try exact Dz) only[↓DN,↓kRet,UP,simprocAttr,NE,LE,Aw,Ba,Bg,hptc,hpt0,hc,hi0,g,g2,↓kc_d,hst,htk,hQd,Ad,↓kv_l,↓kl_b,↓ih',oD,mU,Tryz.f11]
  |false=>
   rw[hg]at kl_b;rw[NV hg];have ih':=ih (i+1) m o o.length om om rfl om;rw[cs1 i]at ih';clear ih hP hQ;generalize dU P pt i=Q at *
   simp-implicitDefEqProofs (maxSteps:=9^7) (disch:=try exact Dz) only[↓DN,↓kRet,UP,simprocAttr,NE,Aw,Ba,Bg,hptc,hpt0,hc,g,g2,↓kc_d,hst,htk,hQd,Ad,↓kv_l,↓kl_b,↓ih',oD,mU,Tryz.f11]
def repD(P:List Sys)(b:Aut)(pt:Int):D:=.ivs (repG P b pt).length (aJ (repG P b pt))
theorem GE{L n:Nat}(hn:15<=n)(P:List Sys)(b:Aut)(pt:Int)(hP:cP P)(sb:bD b.nx)(hac:b.ac.length<=4294967296)(hL:2^60<=L):aA env L n 11 [.d (.ivs P.length (sysD P)),.agg [nI b.al,.d (.ivs b.nx.length (aN b.nx)),.d (.ivs b.ac.length (aK b.ac))],nI pt] []=some (.d (repD P b pt),[]):=by
 have hP1:=hP.1;unfold repD repG D6
 cases hv:bR P with
 |false=>
  simp only[Bn,Aj,if_false];obtain _|n:=n;omega
  simp-implicitDefEqProofs (maxSteps:=9^7) (disch:=try exact Dz) only[↓DN,↓kAsg,↓kRet,UP,simprocAttr,↓cS,cV,hv,kV,jS,Tryz.f11]
 |true=>
  obtain⟨r0,r1⟩:=GG hv;have r2:¬parA P<0:=om;obtain⟨h3,h1,hs⟩:=eT hv
  cases ha:iT b.al b.nx b.ac with
  |false=>
   simp only[Ca,Bn,Aj,if_false];obtain _|n:=n;omega
   simp-implicitDefEqProofs (maxSteps:=9^7) (disch:=try exact Dz) only[↓DN,↓kAsg,↓kRet,UP,simprocAttr,↓cS,↓dY,cV,hv,ha,r2,kV,jS,Tryz.f11]
  |true=>
   by_cases hp0:0<=pt
   ·by_cases hp1:pt<P.length
    ·obtain⟨p,rfl⟩:∃p:Nat,pt=p:=⟨pt.toNat,by omega⟩
     have hpt:p<P.length:=om;simp only[hp0,hp1,decide_true,Bm,if_true,Cd];have hes:=xE hP hpt;have loop_a:=fun {R n k} hn=> @SW R L n hn hL P b hP sb hac p hpt h3 k (P.getD p default).es.length 0 L [] 0 om om rfl (by simp only[Aa,Af];exact hes);simp only[Av,Am,cV]at loop_a;have g0:¬(p:Int)<0:=om;have g1:¬(P.length:Int)<=p:=om;have hfl:=WM (P:=P) (b:=b) (pt:=p) (i:=0) (j:=(P.getD p default).es.length);generalize repF P b p 0 (P.getD p default).es.length=w at *;clear hs;obtain _|n:=n;omega
     simp-implicitDefEqProofs (maxSteps:=9^7) (disch:=try exact Dz) only[↓DN,↓kAsg,↓kRet,UP,simprocAttr,↓cS,↓dY,LE,hv,ha,r2,g0,g1,↓loop_a,kV,jS,Tryz.f11]
    ·have g0:¬pt<0:=om;have g1:(P.length:Int)<=pt:=om;simp only[hp1,decide_false,Ca,Aj,if_false];obtain _|n:=n;omega
     simp-implicitDefEqProofs (maxSteps:=9^7) (disch:=try exact Dz) only[↓DN,↓kAsg,↓kRet,UP,simprocAttr,↓cS,↓dY,cV,hv,ha,r2,g0,g1,kV,jS,Tryz.f11]
   ·have g0:pt<0:=om;simp only[hp0,decide_false,Ca,Bn,Aj,if_false];obtain _|n:=n;omega
    simp-implicitDefEqProofs (maxSteps:=9^7) (disch:=try exact Dz) only[↓DN,↓kAsg,↓kRet,UP,simprocAttr,↓cS,↓dY,cV,hv,ha,r2,g0,kV,jS,Tryz.f11]
theorem XQ:type_of% fun {L} P b pt hP sb hac hL=>ks fun hn=> @GE L _ hn P b pt hP sb hac hL:=fun {L} P b pt hP sb hac hL=>ks fun hn=> @GE L _ hn P b pt hP sb hac hL
theorem aJO{l m:List Edge}(h:∀e∈l,e∈m){q c x:Int}(hx:x∈eX l q c):x∈eX m q c:=by
 unfold eX at *;obtain⟨e,he,rfl⟩:=Bv.1 hx;rw[Dl]at he;exact Bv.2 ⟨e,Dl.2 ⟨h e he.1,he.2⟩,rfl⟩
def SubS(s t:Sys):Prop:=s.al=t.al/\s.st=t.st/\∀e∈s.es,e∈t.es
theorem aLZ{s t:Sys}(h:SubS s t){l q x:Int}(hx:x∈choS s l q):x∈choS t l q:=by
 unfold choS at *;rw[h.1]at hx
 split at hx
 ·rename_i hb
  rw[if_pos hb];exact aJO h.2.2 hx
 ·rename_i hb
  rw[if_neg hb];exact hx
inductive SubM:List Mb->List Mb->Prop
 |nil:SubM [] []
 |cons {m m2:Mb} {ms ms2:List Mb} (he:m.1=m2.1) (h:∀q x,x∈m.2 q->x∈m2.2 q) (hs:SubM ms ms2):SubM (m::ms) (m2::ms2)
theorem SubM.snoc{ms ms2:List Mb}(h:SubM ms ms2){m m2:Mb}(he:m.1=m2.1)(hx:∀q x,x∈m.2 q->x∈m2.2 q):SubM (ms++[m]) (ms2++[m2]):=by
 induction h with
 |nil=>exact .cons he hx .nil
 |cons a b _ ih=>exact .cons a b ih
inductive SubP:List Sys->List Sys->Prop
 |nil:SubP [] []
 |cons {s t:Sys} {P Q:List Sys} (h:SubS s t) (hs:SubP P Q):SubP (s::P) (t::Q)
theorem SubP.mem{P Q:List Sys}(h:SubP P Q)(l:Int):SubM (P.reverse.map (sysS l)) (Q.reverse.map (sysS l)):=by
 induction h with
 |nil=>exact .nil
 |cons h _ ih=>
  simp only[List.reverse_cons,Dk,Ag,Ak];exact ih.snoc h.2.1 fun q x hx=>aLZ h hx
theorem SubP.parA{P Q:List Sys}(h:SubP P Q):∀z:Int,P.foldl (fun z s=>iOr .i64 z s.al) z=Q.foldl (fun z s=>iOr .i64 z s.al) z:=by
 induction h with
 |nil=>exact fun _=>rfl
 |cons h _ ih=>
  intro z;rw[Ct,Ct,h.1];exact ih _
section
variable{R:Type}{L n:Nat}
def aAL(P:List Sys)(pt k:Nat):Sys:=⟨(P.getD pt default).al,(P.getD pt default).st,(P.getD pt default).es.take k++(P.getD pt default).es.drop (k+1)⟩
def endS(P:List Sys)(pt:Nat)(x:Sys)(j:Nat):Sys:=if j=0 then x else aAL P pt ((P.getD pt default).es.length-1)
theorem aDj{P:List Sys}{pt i j:Nat}{x:Sys}(h:i+(j+1)=(P.getD pt default).es.length):endS P pt (aAL P pt i) j=endS P pt x (j+1):=by
 unfold endS;rw[if_neg (by omega:¬j+1=0)]
 split
 ·rw[show(P.getD pt default).es.length-1=i by omega]
 ·rfl
theorem Q7(hn:17<=n)(hL:2^60<=L){P:List Sys}{b:Aut}(hP:cP P)(hv:bR P=true)(sb:bD b.nx)(hac:b.ac.length<=4294967296){pt:Nat}(hpt:pt<P.length){k:KE R}:∀(j i m:Nat) (x:Sys) (o:List Edge) (len:Nat) (hi:i+j=(P.getD pt default).es.length) (hm:j<m) (hlen:len=o.length) (ho:o.length+j<=4294967296),
  aV env (aA env L n) L 0 (W4 (W2 (W1 [4]))) Bz19 (vG 0) (Z1 (U1 (Z1 (U1 (Z1 (U1 (Z2 (Z1 (U16 (U8 (U2 (Z2 (Z1 (U16 (U8 ([])))))))))))))))) m (.d (.ivs P.length (sysD P))::Y1 (nI pt::Y1 (.ptr 0 0 0::Y1 (.d .nils::.sl 1 0 0 len::.sl 2 0 0 P.length::Y16 (Y8 (Y2 (.d (.ivs (P.getD pt default).es.length (aJ (P.getD pt default).es))::nI ((P.getD pt default).es.length)::nI i::Y16 (Y8 ([]))))))))) [.box [nI b.al,.d (.ivs b.nx.length (aN b.nx)),.d (.ivs b.ac.length (aK b.ac))],.arr (aJ o) 3 0,.arr (sysD (P.set pt x)) 3 0] k
  =k (.exit 0) (.d (.ivs P.length (sysD P))::Y1 (nI pt::Y1 (.ptr 0 0 0::Y1 (.d .nils::.sl 1 0 0 (o++repF P b pt i j).length::.sl 2 0 0 P.length::Y16 (Y8 (Y2 (.d (.ivs (P.getD pt default).es.length (aJ (P.getD pt default).es))::nI ((P.getD pt default).es.length)::nI ((P.getD pt default).es.length)::Y16 (Y8 ([]))))))))) [.box [nI b.al,.d (.ivs b.nx.length (aN b.nx)),.d (.ivs b.ac.length (aK b.ac))],.arr (aJ (o++repF P b pt i j)) 3 0,.arr (sysD (P.set pt (endS P pt x j))) 3 0]:=by
 have hP1:=hP.1;obtain⟨h3,_,hvs⟩:=eT hv;have hes:=xE hP hpt;have hptc:(pt:Int)<P.length:=om;have hpt0:(0:Int)<=pt:=om;have g:=mY hpt;have hso:=hvs _ (GL hpt);intro j
 induction j with
 |zero=>
  intro i m x o len hi hm hlen ho;obtain _|m:=m;omega;obtain rfl:i=(P.getD pt default).es.length:=om;subst hlen;rw[QD,Ai];have e0:endS P pt x 0=x:=rfl;rw[e0]
  simp-implicitDefEqProofs (maxSteps:=9^7) (disch:=try exact Dz) only[↓DN,↓kRet,UP,simprocAttr,Al,n5,mM,Tryz.f14]
 |succ j ih=>
  intro i m x o len hi hm hlen ho;obtain _|m:=m;omega;subst hlen;have hk:i<(P.getD pt default).es.length:=om;have hc:(i:Int)<(P.getD pt default).es.length:=om;have hi0:(0:Int)<=i:=om;have hQ:=aBL hP pt i;have hQl:=S5 (P:=P) (pt:=pt) (k:=i);have hst:=@EE (P.set pt x) pt (P.getD pt default).al (P.getD pt default).st ((P.getD pt default).es.take i++(P.getD pt default).es.drop (i+1)) (by rw[Be];exact hpt);rw[aKc]at hst;have hg:=aFl (GY hso) hk;have kc_d:=fun {R n hq k} hn=> @JE R L n hq k hn (P.getD pt default).al (P.getD pt default).st ((P.getD pt default).es.getD i default).fr ((P.getD pt default).es.getD i default).lt ((P.getD pt default).es.getD i default).to (P.getD pt default).es hes hL hso hg.1;have hb:bsE (P.getD pt default).es ⟨((P.getD pt default).es.getD i default).fr,((P.getD pt default).es.getD i default).lt,((P.getD pt default).es.getD i default).to⟩=i:=hg.2;rw[hb]at kc_d;generalize(P.getD pt default).es.take i++(P.getD pt default).es.drop (i+1)=w at kc_d hst;have hQd:(sysD (dU P pt i)).length=P.length*3:=by rw[kK,hQl]
  have kl_b:=@K7 L (dU P pt i) b hQ sb hac hL;have kv_l:=fun {R:Type} {n:Nat} {hq:H} {args:List A} {k:KA R}=>d7 (E:=env) (call:=aA env L n) (h:=hq) (k:=k) (args:=args) oK;have htk:(sysD (dU P pt i)).take (P.length*3)=sysD (dU P pt i):=qM om;have hsl:(P.set pt x).length=P.length:=Be ..;rw[hQl]at kl_b;have eQ:P.set pt (aAL P pt i)=dU P pt i:=rfl
  cases hg2:sD (dU P pt i) b with
  |true=>
   rw[hg2]at kl_b;rw[WQ hg2];have ih':=ih (i+1) m (aAL P pt i) (o++[(P.getD pt default).es.getD i default]) (o.length+1) om om sm (by rw[Ah,Bu];omega);rw[cs1 i,eQ,aDj (x:=x) hi]at ih';simp only[Ao,At,Am]at ih';clear ih hP hQ hv hvs hso hg hb eQ;generalize dU P pt i=Q at *
   simp-implicitDefEqProofs (maxSteps:=9^7) (disch:=try exact Dz) only[↓DN,↓kRet,UP,simprocAttr,NE,LE,Aw,Ba,hptc,hpt0,hc,hi0,hsl,g,↓kc_d,hst,htk,hQd,Ad,↓kv_l,↓kl_b,↓ih',n5,mM,Tryz.f14]
  |false=>
   rw[hg2]at kl_b;rw[NV hg2];have ih':=ih (i+1) m (aAL P pt i) o o.length om om rfl om;rw[cs1 i,eQ,aDj (x:=x) hi]at ih';clear ih hP hQ hv hvs hso hg hb eQ;generalize dU P pt i=Q at *
   simp-implicitDefEqProofs (maxSteps:=9^7) (disch:=try exact Dz) only[↓DN,↓kRet,UP,simprocAttr,NE,LE,Aw,Ba,hptc,hpt0,hc,hi0,hsl,g,↓kc_d,hst,htk,hQd,Ad,↓kv_l,↓kl_b,↓ih',n5,mM,Tryz.f14]
theorem aGF{P:List Sys}(hl:P.length<=4294967296):lY 3 [.d (.ivs P.length (sysD P))] []=some (.sl 0 0 0 P.length,[.arr (sysD P) 3 0]):=by
 have h2:bT [] 3 (.d (.ivs P.length (sysD P)))=some (P.length,sysD P):=by
  simp only[bT,kK,if_true]
 have h3:P.length<=bF:=by unfold bF;omega
 simp only[lY,h2,h3,if_true]<;>rfl
theorem B7{hq:H}{k:KA R}(hn:1<=n)(P:List Sys)(hl:P.length<=4294967296):
  aU env (aA env L n) hq 63 [.d (.ivs P.length (sysD P))] k=k (.sl hq.length 0 0 P.length) (hq++[.arr (sysD P) 3 0]):=by
 obtain _|n:=n;omega;rw[YN rfl fR (by rw[rO];exact aGF hl)];simp[mapA,back,mapO]
theorem G5(hn:18<=n)(P:List Sys)(b:Aut)(pt:Int)(hP:cP P)(sb:bD b.nx)(hac:b.ac.length<=4294967296)(hL:2^60<=L):aA env L n 14 [.d (.ivs P.length (sysD P)),.agg [nI b.al,.d (.ivs b.nx.length (aN b.nx)),.d (.ivs b.ac.length (aK b.ac))],nI pt] []=some (.d (repD P b pt),[]):=by
 have hP1:=hP.1;unfold repD repG D6
 cases hv:bR P with
 |false=>
  simp only[Bn,Aj,if_false];obtain _|n:=n;omega
  simp-implicitDefEqProofs (maxSteps:=9^7) (disch:=try exact Dz) only[↓DN,↓kAsg,↓kRet,UP,simprocAttr,↓dM,cV,hv,kW,jQ,Tryz.f14]
 |true=>
  obtain⟨h3,h1,hs⟩:=eT hv
  cases ha:iT b.al b.nx b.ac with
  |false=>
   simp only[Ca,Bn,Aj,if_false];obtain _|n:=n;omega
   simp-implicitDefEqProofs (maxSteps:=9^7) (disch:=try exact Dz) only[↓DN,↓kAsg,↓kRet,UP,simprocAttr,↓dM,↓dZ,cV,hv,ha,kW,jQ,Tryz.f14]
  |true=>
   by_cases hp0:0<=pt
   ·by_cases hp1:pt<P.length
    ·obtain⟨p,rfl⟩:∃p:Nat,pt=p:=⟨pt.toNat,by omega⟩
     have hpt:p<P.length:=om;simp only[hp0,hp1,decide_true,Bm,if_true,Cd];have hes:=xE hP hpt;have g:=mY hpt;have g2:=aAc hpt
     have eP:P.set p (P.getD p default)=P:=by
      refine List.ext_getElem sm fun i a b=> ?_;rw[List.getElem_set]
      split
      ·rename_i h;subst h;rw[Ab,Ae hpt];rfl
      ·rfl
     have g0:¬(p:Int)<0:=om;have g1:¬(P.length:Int)<=p:=om;have hfl:=WM (P:=P) (b:=b) (pt:=p) (i:=0) (j:=(P.getD p default).es.length);have loop_a:=fun {R n k} hn=> @Q7 R L n hn hL P b hP hv sb hac p hpt k (P.getD p default).es.length 0 L (P.getD p default) [] 0 om om rfl (by simp only[Aa,Af];exact hes);simp only[Av,Am,cV,eP]at loop_a;generalize repF P b p 0 (P.getD p default).es.length=w at *;clear hs;obtain _|n:=n;omega
     simp-implicitDefEqProofs (maxSteps:=9^7) (disch:=try exact Dz) only[↓DN,↓kAsg,↓kRet,UP,simprocAttr,↓dM,↓dZ,NE,LE,Ba,Bg,hv,ha,g0,g1,g2,↓B7,↓loop_a,kW,jQ,Tryz.f14]
    ·have g0:¬pt<0:=om;have g1:(P.length:Int)<=pt:=om;simp only[hp1,decide_false,Ca,Aj,if_false];obtain _|n:=n;omega
     simp-implicitDefEqProofs (maxSteps:=9^7) (disch:=try exact Dz) only[↓DN,↓kAsg,↓kRet,UP,simprocAttr,↓dM,↓dZ,cV,hv,ha,g0,g1,kW,jQ,Tryz.f14]
   ·have g0:pt<0:=om;simp only[hp0,decide_false,Ca,Bn,Aj,if_false];obtain _|n:=n;omega
    simp-implicitDefEqProofs (maxSteps:=9^7) (disch:=try exact Dz) only[↓DN,↓kAsg,↓kRet,UP,simprocAttr,↓dM,↓dZ,cV,hv,ha,g0,kW,jQ,Tryz.f14]
theorem X2:type_of% fun {L} P b pt hP sb hac hL=>ks fun hn=> @G5 L _ hn P b pt hP sb hac hL:=fun {L} P b pt hP sb hac hL=>ks fun hn=> @G5 L _ hn P b pt hP sb hac hL
end
theorem aCD{h:H}{a b c d e f:Int}:cH env .neq 53 h (.agg [nI a,nI b,nI c]) (.agg [nI d,nI e,nI f])=some (.d (.bool (!decide ((⟨a,b,c⟩:Edge)=⟨d,e,f⟩))),h):=by
 have hc:env.eqs.contains (53,3)=true:=kr;have h1:aBin .neq (.agg [nI a,nI b,nI c]) (.agg [nI d,nI e,nI f])=none:=rfl
 have h2:aNil env.P .neq 53 (.agg [nI a,nI b,nI c]) (.agg [nI d,nI e,nI f])=none:=by
  unfold aNil
  cases env.P.underlying 53 with
  |none=>rfl
  |some t=>cases t<;>rfl
 simp only[cH,h1,h2,SS,I6,Ax,Ac,Aa,Af,Nat.reduceAdd,hc,and_self,if_true,eqlA];have:([a,b,c]==[d,e,f])=decide ((⟨a,b,c⟩:Edge)=⟨d,e,f⟩):=by rw[Bool.eq_iff_iff];simp
 rw[this]
theorem aGa{R:Type}{L n:Nat}{l:List Edge}(hl:l.length<=4294967296){k:KE R}:∀(i:Int) (m:Nat) (h0:0<=i) (hi:i<=l.length) (hm:(l.length:Int)-i<m),
  aV env (aA env L n) L 0 [] Bz64 (MV 0) (Z2 (U2 (Z2 (U16 (U4 ([])))))) m (.d (.ivs l.length (aJ l))::.d (.ivs l.length (aJ l))::Y2 (.d (.bool false)::nI i::Y16 (Y4 ([])))) [] k
  =k (.exit 0) (.d (.ivs l.length (aJ l))::.d (.ivs l.length (aJ l))::Y2 (.d (.bool false)::nI (l.length)::Y16 (Y4 ([])))) []:=by
 intro i m h0 hi hm;obtain⟨j,hj⟩:∃j:Nat,(j:Int)=(l.length:Int)-i:=⟨((l.length:Int)-i).toNat,by omega⟩
 induction j generalizing i m with
 |zero=>
  obtain _|m:=m;omega;obtain rfl:i=l.length:=om
  simp-implicitDefEqProofs (maxSteps:=9^7) (disch:=try exact Dz) only[↓DN,↓kRet,UP,simprocAttr,Al,KZ,JN,Tryz.f23]
 |succ j ih=>
  obtain _|m:=m;omega;have hc:i<l.length:=om;have hk:i.toNat<l.length:=om
  simp-implicitDefEqProofs (maxSteps:=9^7) (disch:=try exact Dz) only[↓DN,↓kRet,UP,simprocAttr,LE,aCD,hc,↓ih,KZ,JN,Tryz.f23]
theorem aAH{L n:Nat}(hn:2<=n)(l:List Edge)(hl:l.length<=4294967296)(hL:2^60<=L):aA env L n 23 [.d (.ivs l.length (aJ l)),.d (.ivs l.length (aJ l))] []=some (.d (.bool true),[]):=by
 obtain _|n:=n;omega
 simp-implicitDefEqProofs (maxSteps:=9^7) (disch:=try exact Dz) only[↓DN,↓kAsg,↓kRet,UP,simprocAttr,↓aGa,aJI,aDb,Tryz.f23]
theorem Z5:type_of% fun {L} l hl hL=>ks fun hn=> @aAH L _ hn l hl hL:=fun {L} l hl hL=>ks fun hn=> @aAH L _ hn l hl hL
theorem iN:(env.hint 146).mode=0:=kr
theorem aPd{l:List Edge}{k:Nat}{v:Int}(h:k<l.length):List.take (k*3) (aJ l)++[.int .i64 v]++List.drop (k*3+1) (aJ l)=aJ (l.set k ⟨v,(l.getD k default).lt,(l.getD k default).to⟩):=aJg h
theorem aOg{l:List Edge}{k:Nat}{v:Int}(h:k<l.length):List.take (k*3+1) (aJ l)++[.int .i64 v]++List.drop (k*3+1+1) (aJ l)=aJ (l.set k ⟨(l.getD k default).fr,v,(l.getD k default).to⟩):=aIW h
theorem aO2{l:List Edge}{k:Nat}{v:Int}(h:k<l.length):List.take (k*3+2) (aJ l)++[.int .i64 v]++List.drop (k*3+2+1) (aJ l)=aJ (l.set k ⟨(l.getD k default).fr,(l.getD k default).lt,v⟩):=aJK h
theorem NI{c:List UInt8}(hc:c.length<=2000)(al st:Int)(es:List Edge)(hes:es.length<=70000)(p:Int)(hp:0<=p)(hp2:p<=600000000):∃(al2 st2:Int) (es2:List Edge) (q:Int),es2.length<=es.length+1/\p<=q/\q<=p+60000/\(Dw 4 146 [.agg [nI al,nI st,.d (.ivs es.length (aJ es))]] (.agg [nI al2,nI st2,.d (.ivs es2.length (aJ es2))]) c p q):=by
 obtain⟨u,u0,u1,u2,kd⟩:=bN hc p es.length hp om;obtain⟨v,v0,v1,_,kd1⟩:=bN hc (p+1) 30 om om;have het:(aJ es).take (es.length*3)=aJ es:=j7 (Ad _)
 by_cases w0:v=0
 ·subst w0;obtain⟨x,hx,kd2⟩:=gQ hc [64,-1,1,63] sm sm (p+1+1) om om;simp only[ints,Ag,Ak,Ac,Aa,Af,Nat.reduceAdd]at kd2;refine⟨x,st,es,p+1+1+1,by omega,by omega,by omega,fun R L n hq k hn hL=>aS iN rfl rfl ?_⟩;obtain _|n:=n;omega
  simp-implicitDefEqProofs (maxSteps:=9^7) (disch:=try exact Dz) only[↓DN,↓kRet,UP,simprocAttr,LE,↓kd,↓kd1,↓kd2,het,eL,eO,Tryz.f146]
 by_cases w1:v=1
 ·subst w1;obtain⟨x,hx,kd2⟩:=gQ hc [0,17,-1,16,1] sm sm (p+1+1) om om;simp only[ints,Ag,Ak,Ac,Aa,Af,Nat.reduceAdd]at kd2;refine⟨al,x,es,p+1+1+1,by omega,by omega,by omega,fun R L n hq k hn hL=>aS iN rfl rfl ?_⟩;obtain _|n:=n;omega
  simp-implicitDefEqProofs (maxSteps:=9^7) (disch:=try exact Dz) only[↓DN,↓kRet,UP,simprocAttr,LE,↓kd,↓kd1,↓kd2,het,eL,eO,Tryz.f146]
 by_cases w2:v=2
 ·subst w2
  by_cases hpos:(0:Int)<es.length
  ·have hu:u<es.length:=u1 om;have hk:u.toNat<es.length:=om;obtain⟨x,hx,kd2⟩:=gQ hc [-1,16,0,2] sm sm (p+1+1) om om;simp only[ints,Ag,Ak,Ac,Aa,Af,Nat.reduceAdd]at kd2;have hsl:(es.set u.toNat ⟨x,(es.getD u.toNat default).lt,(es.getD u.toNat default).to⟩).length=es.length:=sm;have hst:(aJ (es.set u.toNat ⟨x,(es.getD u.toNat default).lt,(es.getD u.toNat default).to⟩)).take (es.length*3)=aJ (es.set u.toNat ⟨x,(es.getD u.toNat default).lt,(es.getD u.toNat default).to⟩):=j7 om;refine⟨al,st,es.set u.toNat ⟨x,(es.getD u.toNat default).lt,(es.getD u.toNat default).to⟩,p+1+1+1,by omega,by omega,by omega,fun R L n hq k hn hL=>aS iN rfl rfl ?_⟩;rw[hsl];obtain _|n:=n;omega
   simp-implicitDefEqProofs (maxSteps:=9^7) (disch:=try exact Dz) only[↓DN,↓kRet,UP,simprocAttr,LE,↓kd,↓kd1,↓kd2,hpos,hu,aPd,hst,eL,eO,Tryz.f146]
  ·refine⟨al,st,es,p+1+1,by omega,by omega,by omega,fun R L n hq k hn hL=>aS iN rfl rfl ?_⟩;obtain _|n:=n;omega
   simp-implicitDefEqProofs (maxSteps:=9^7) (disch:=try exact Dz) only[↓DN,↓kRet,UP,simprocAttr,LE,↓kd,↓kd1,het,hpos,eL,eO,Tryz.f146]
 by_cases w3:v=3
 ·subst w3
  by_cases hpos:(0:Int)<es.length
  ·have hu:u<es.length:=u1 om;have hk:u.toNat<es.length:=om;obtain⟨x,hx,kd2⟩:=gQ hc [-1,16,0,3] sm sm (p+1+1) om om;simp only[ints,Ag,Ak,Ac,Aa,Af,Nat.reduceAdd]at kd2;have hsl:(es.set u.toNat ⟨(es.getD u.toNat default).fr,(es.getD u.toNat default).lt,x⟩).length=es.length:=sm;have hst:(aJ (es.set u.toNat ⟨(es.getD u.toNat default).fr,(es.getD u.toNat default).lt,x⟩)).take (es.length*3)=aJ (es.set u.toNat ⟨(es.getD u.toNat default).fr,(es.getD u.toNat default).lt,x⟩):=j7 om;refine⟨al,st,es.set u.toNat ⟨(es.getD u.toNat default).fr,(es.getD u.toNat default).lt,x⟩,p+1+1+1,by omega,by omega,by omega,fun R L n hq k hn hL=>aS iN rfl rfl ?_⟩;rw[hsl];obtain _|n:=n;omega
   simp-implicitDefEqProofs (maxSteps:=9^7) (disch:=try exact Dz) only[↓DN,↓kRet,UP,simprocAttr,LE,↓kd,↓kd1,↓kd2,hpos,hu,aO2,hst,eL,eO,Tryz.f146]
  ·refine⟨al,st,es,p+1+1,by omega,by omega,by omega,fun R L n hq k hn hL=>aS iN rfl rfl ?_⟩;obtain _|n:=n;omega
   simp-implicitDefEqProofs (maxSteps:=9^7) (disch:=try exact Dz) only[↓DN,↓kRet,UP,simprocAttr,LE,↓kd,↓kd1,het,hpos,eL,eO,Tryz.f146]
 by_cases w4:v=4
 ·subst w4
  by_cases hpos:(0:Int)<es.length
  ·have hu:u<es.length:=u1 om;have hk:u.toNat<es.length:=om;obtain⟨x,hx,kd2⟩:=gQ hc [-1,6,70,5,0] sm sm (p+1+1) om om;simp only[ints,Ag,Ak,Ac,Aa,Af,Nat.reduceAdd]at kd2;have hsl:(es.set u.toNat ⟨(es.getD u.toNat default).fr,x,(es.getD u.toNat default).to⟩).length=es.length:=sm;have hst:(aJ (es.set u.toNat ⟨(es.getD u.toNat default).fr,x,(es.getD u.toNat default).to⟩)).take (es.length*3)=aJ (es.set u.toNat ⟨(es.getD u.toNat default).fr,x,(es.getD u.toNat default).to⟩):=j7 om;refine⟨al,st,es.set u.toNat ⟨(es.getD u.toNat default).fr,x,(es.getD u.toNat default).to⟩,p+1+1+1,by omega,by omega,by omega,fun R L n hq k hn hL=>aS iN rfl rfl ?_⟩;rw[hsl];obtain _|n:=n;omega
   simp-implicitDefEqProofs (maxSteps:=9^7) (disch:=try exact Dz) only[↓DN,↓kRet,UP,simprocAttr,LE,↓kd,↓kd1,↓kd2,hpos,hu,aOg,hst,eL,eO,Tryz.f146]
  ·refine⟨al,st,es,p+1+1,by omega,by omega,by omega,fun R L n hq k hn hL=>aS iN rfl rfl ?_⟩;obtain _|n:=n;omega
   simp-implicitDefEqProofs (maxSteps:=9^7) (disch:=try exact Dz) only[↓DN,↓kRet,UP,simprocAttr,LE,↓kd,↓kd1,het,hpos,eL,eO,Tryz.f146]
 by_cases w5:v=5
 ·subst w5
  by_cases hpos:(0:Int)<es.length
  ·have hu:u<es.length:=u1 om;have hk:u.toNat<es.length:=om;have hst:(aJ (es++[es.getD u.toNat default])).take ((es.length+1)*3)=aJ (es++[es.getD u.toNat default]):=j7 sm;refine⟨al,st,es++[es.getD u.toNat default],p+1+1,by rw[Ah,Bu];omega,by omega,by omega,fun R L n hq k hn hL=>aS iN rfl rfl ?_⟩;obtain _|n:=n;omega
   simp-implicitDefEqProofs (maxSteps:=9^7) (disch:=try exact Dz) only[↓DN,↓kRet,UP,simprocAttr,LE,↓kd,↓kd1,het,hpos,hu,hst,eL,eO,Tryz.f146]
  ·refine⟨al,st,es,p+1+1,by omega,by omega,by omega,fun R L n hq k hn hL=>aS iN rfl rfl ?_⟩;obtain _|n:=n;omega
   simp-implicitDefEqProofs (maxSteps:=9^7) (disch:=try exact Dz) only[↓DN,↓kRet,UP,simprocAttr,LE,↓kd,↓kd1,het,hpos,eL,eO,Tryz.f146]
 by_cases w6:v=6
 ·subst w6;obtain⟨x,x0,_,_,kd2⟩:=bN hc (p+1+1) 4 om om;obtain⟨y,y0,_,_,kd3⟩:=bN hc (p+1+1+1) 3 om om;obtain⟨z,z0,_,_,kd4⟩:=bN hc (p+1+1+1+1) 4 om om;have hst:(aJ (es++[⟨x,y,z⟩])).take ((es.length+1)*3)=aJ (es++[⟨x,y,z⟩]):=j7 sm;refine⟨al,st,es++[⟨x,y,z⟩],p+1+1+1+1+1,by rw[Ah,Bu];omega,by omega,by omega,fun R L n hq k hn hL=>aS iN rfl rfl ?_⟩;obtain _|n:=n;omega
  simp-implicitDefEqProofs (maxSteps:=9^7) (disch:=try exact Dz) only[↓DN,↓kRet,UP,simprocAttr,LE,↓kd,↓kd1,↓kd2,↓kd3,↓kd4,het,hst,eL,eO,Tryz.f146]
 refine⟨al,st,es,p+1+1,by omega,by omega,by omega,fun R L n hq k hn hL=>aS iN rfl rfl ?_⟩;obtain _|n:=n;omega
 simp-implicitDefEqProofs (maxSteps:=9^7) (disch:=try exact Dz) only[↓DN,↓kRet,UP,simprocAttr,LE,↓kd,↓kd1,het,w0,w1,w2,w3,w4,w5,w6,eL,eO,Tryz.f146]
end Ev
end Go.Proofs.YtahbdkmimmnadaaGreatDoor
