/-
  Systems that are drawn, by any of the ways.
-/
import Derived.Test.YtahbdkmimmnadaaGreatDoorDrawT
import Derived.Test.YtahbdkmimmnadaaGreatDoorDrawP
import Derived.Test.YtahbdkmimmnadaaGreatDoorLeast
set_option linter.unusedSimpArgs false
set_option linter.unusedVariables false
set_option linter.unusedSectionVars false
set_option maxRecDepth 8000
set_option maxHeartbeats 4000000
namespace Go.Proofs.YtahbdkmimmnadaaGreatDoor
namespace Ev
theorem Y0:∀(n:Nat) (cs:List D),aB4 n cs=true->∃l:List Edge,l.length=n/\cs=aJ l
 |0,[],_=>⟨[],rfl,rfl⟩
 |0,_::_,h=>by simp[aB4]at h
 |n+1,cs,h=>by
  unfold aB4 at h
  split at h
  ·exfalso;omega
  ·rename_i m a b c ds heq
   cases heq;obtain⟨l,h1,h2⟩:=Y0 n _ h
   exact⟨⟨a,b,c⟩::l,by simp[h1],by rw[h2,f8]⟩
  ·cases h
theorem aMD{r:Option (A×H)}(h:hG r=true):∃(al st:Int) (l:List Edge) (ok:Bool),l.length<=100/\r=some (.tup [.agg [nI al,nI st,.d (.ivs l.length (aJ l))],.d (.bool ok)],[]):=by
 unfold hG at h
 split at h
 ·rename_i al st n cs ok
  simp only[Aj,decide_eq_true_eq]at h;obtain⟨l,h1,h2⟩:=Y0 _ _ h.1;subst h1;subst h2;exact⟨al,st,l,ok,h.2,rfl⟩
 ·cases h
theorem aD9{t:List UInt8}(ht:t∈CC):∃(al st:Int) (l:List Edge) (ok:Bool),l.length<=100/\∀(L n:Nat),12<=n->2^60<=L->aA env L n 138 [.d (.str t)] []=some (.tup [.agg [nI al,nI st,.d (.ivs l.length (aJ l))],.d (.bool ok)],[]):=by
 obtain⟨al,st,l,ok,h1,h2⟩:=aMD (aOs t ht);exact⟨al,st,l,ok,h1,fun L n hn hL=>aAh om hn _ _ _ _ h2⟩
theorem aBf:(env.hint 147).mode=0:=kr
theorem aLh:(env.hint 80).mode=0:=kr
theorem TK{L n:Nat}(hn:1<=n):aA env L n 208 [] []=some (.d (.ivs 11 (XN CC)),[]):=by
 obtain _|n:=n;omega
 kernel_rfl
theorem VR:type_of% fun {L}=>ks fun hn=> @TK L _ hn:=fun {L}=>ks fun hn=> @TK L _ hn
theorem aE9{c:List UInt8}(hc:c.length<=2000)(p:Int)(hp:0<=p)(hp2:p<=500000000):∃(al st:Int) (es:List Edge) (q:Int),es.length<=60000/\p<=q/\q<=p+70000/\(Dw 14 147 [] (.agg [nI al,nI st,.d (.ivs es.length (aJ es))]) c p q):=by
 obtain⟨v,v0,v1,_,kd1⟩:=cL hc p 3 hp om
 have rest:∀p1:Int,0<=p1->p1<=500000010->∃(al st few:Int) (es:List Edge) (q:Int),(0<=st/\st<=100)/\es.length<=60000/\p1<=q/\q<=p1+60010/\
   (∀(R:Type) (L n id:Nat) (hq:H) (k:KA R),2<=n->2^60<=L->hq[id]? =some (.arr (ints [3,6,7,5,1,0,12]) 1 0)->aW env (aA env L n) (rdO c p1::hq) 74 [.ptr 0 0 0,.sl (id+1) 0 0 7] k=k (nI al) (rdO c (p1+1)::hq))/\
   (∀(R:Type) (L n id:Nat) (hq:H) (k:KA R),2<=n->2^60<=L->hq[id]? =some (.arr (ints [3,2,4,1,5]) 1 0)->aW env (aA env L n) (rdO c (p1+1)::hq) 74 [.ptr 0 0 0,.sl (id+1) 0 0 5] k=k (nI st) (rdO c (p1+1+1)::hq))/\
   (∀(R:Type) (L n id:Nat) (hq:H) (k:KA R),2<=n->2^60<=L->hq[id]? =some (.arr (ints [3,2,4,6]) 1 0)->aW env (aA env L n) (rdO c (p1+1+1)::hq) 74 [.ptr 0 0 0,.sl (id+1) 0 0 4] k=k (nI few) (rdO c (p1+1+1+1)::hq))/\
   (Dw 4 209 [nI al,nI st,nI few] (.agg [nI al,nI st,.d (.ivs es.length (aJ es))]) c (p1+1+1+1) q):=by
  intro p1 h0 h1;obtain⟨al,_,k1⟩:=eY hc [3,6,7,5,1,0,12] sm sm p1 h0 om;obtain⟨st,hst,k2⟩:=eY hc [3,2,4,1,5] sm sm (p1+1) om om;obtain⟨few,_,k3⟩:=eY hc [3,2,4,6] sm sm (p1+1+1) om om;have hst2:0<=st/\st<=100:=by simp at hst;omega
  obtain⟨es,q,g1,g2,g3,k4⟩:=YV hc al st few hst2.1 hst2.2 (p1+1+1+1) om om;exact⟨al,st,few,es,q,hst2,g1,by omega,by omega,k1,k2,k3,k4⟩
 by_cases hv:v=0
 ·subst hv;obtain⟨t,ht,kd2⟩:=aSv hc CC (by simp[CC]) (by simp[CC]) (p+1) om om;have e11:CC.length=11:=rfl;rw[e11]at kd2;obtain⟨al,st,es,ok,hes,he⟩:=aD9 ht;have kc_p:∀ {R:Type} {L n:Nat} {hq:H} {k:KA R},12<=n->2^60<=L->aW env (aA env L n) hq 138 [.d (.str t)] k=k (.tup [.agg [nI al,nI st,.d (.ivs es.length (aJ es))],.d (.bool ok)]) hq:=fun hn hL=>cS rfl (he _ _ hn hL) rfl (.inr rfl)
  cases ok with
  |true=>
   refine⟨al,st,es,p+1+1,by omega,by omega,by omega,fun R L n hq k hn hL=>aZ aBf rfl rfl ?_⟩;obtain _|n:=n;omega
   simp-implicitDefEqProofs (maxSteps:=9^7) (disch:=try exact Dz) only[↓DN,↓kRet,UP,simprocAttr,↓VR,↓kd1,↓kd2,↓kc_p,MS,FY,Tryz.f147]
  |false=>
   obtain⟨al',st',few,es',q,hst,g1,g2,g3,k1,k2,k3,k4⟩:=rest (p+1+1) om om;simp only[ints,Af,Al]at k1 k2 k3;refine⟨al',st',es',q,g1,by omega,by omega,fun R L n hq k hn hL=>aZ aBf rfl rfl ?_⟩;have kd3:=fun {R:Type} {L n id:Nat} {hq:H} {k:KA R}=>k1 R L n id hq k;have kd4:=fun {R:Type} {L n id:Nat} {hq:H} {k:KA R}=>k2 R L n id hq k;have kd5:=fun {R:Type} {L n id:Nat} {hq:H} {k:KA R}=>k3 R L n id hq k;have kd6:=fun {R:Type} {L n:Nat} {hq:H} {k:KA R}=>k4 R L n hq k;obtain _|n:=n;omega
   simp-implicitDefEqProofs (maxSteps:=9^7) (disch:=try exact Dz) only[↓DN,↓kRet,UP,simprocAttr,↓VR,↓kd1,↓kd2,↓kc_p,↓kd3,↓kd4,↓kd5,↓kd6,MS,FY,Tryz.f147]
 ·obtain⟨al',st',few,es',q,hst,g1,g2,g3,k1,k2,k3,k4⟩:=rest (p+1) om om;simp only[ints,Af,Al]at k1 k2 k3;refine⟨al',st',es',q,g1,by omega,by omega,fun R L n hq k hn hL=>aZ aBf rfl rfl ?_⟩;have kd3:=fun {R:Type} {L n id:Nat} {hq:H} {k:KA R}=>k1 R L n id hq k;have kd4:=fun {R:Type} {L n id:Nat} {hq:H} {k:KA R}=>k2 R L n id hq k;have kd5:=fun {R:Type} {L n id:Nat} {hq:H} {k:KA R}=>k3 R L n id hq k;have kd6:=fun {R:Type} {L n:Nat} {hq:H} {k:KA R}=>k4 R L n hq k;obtain _|n:=n;omega
  simp-implicitDefEqProofs (maxSteps:=9^7) (disch:=try exact Dz) only[↓DN,↓kRet,UP,simprocAttr,↓kd1,hv,↓kd3,↓kd4,↓kd5,↓kd6,MS,FY,Tryz.f147]
theorem aPp{c:List UInt8}(hc:c.length<=2000)(p:Int)(hp:0<=p)(hp2:p<=400000000):∃(al st:Int) (es:List Edge) (q:Int),es.length<=80000/\p<=q/\q<=p+200000/\(Dw 15 80 [] (.agg [nI al,nI st,.d (.ivs es.length (aJ es))]) c p q):=by
 obtain⟨v,v0,v1,_,kd1⟩:=cL hc p 12 hp om
 by_cases hv:v=0
 ·subst hv;obtain⟨es,q,g1,g2,g3,kd2⟩:=aPA hc (p+1) om om;refine⟨3,16,es,q,by omega,by omega,by omega,fun R L n hq k hn hL=>aZ aLh rfl rfl ?_⟩;obtain _|n:=n;omega
  simp-implicitDefEqProofs (maxSteps:=9^7) (disch:=try exact Dz) only[↓DN,↓kRet,UP,simprocAttr,↓kd1,↓kd2,aCQ,TJ,Tryz.f80]
 ·obtain⟨al,st,es,q,g1,g2,g3,kd2⟩:=aE9 hc (p+1) om om;obtain⟨al2,st2,es2,q2,b1,b2,b3,kd3⟩:=GC hc al st es om q om om;refine⟨al2,st2,es2,q2,by omega,by omega,by omega,fun R L n hq k hn hL=>aZ aLh rfl rfl ?_⟩;obtain _|n:=n;omega
  simp-implicitDefEqProofs (maxSteps:=9^7) (disch:=try exact Dz) only[↓DN,↓kRet,UP,simprocAttr,↓kd1,hv,↓kd2,↓kd3,aCQ,TJ,Tryz.f80]
section
theorem O8{m:List Bool}{s:List A}{h:H}{ord:List Nat}(hr:aD aF h (idsL (tidy m s)) []=ord):gc 0 m s h=(aQ 0 (pack h ord) (aE (aH ord) (tidy m s)),cM 0 (pack h ord)):=by
 unfold gc trim;rw[WS];unfold aF at hr;rw[hr]
theorem fV{h:H}:∀(os:H) (i:Nat),dV 0 h i os=os.map (cB 0 h 0)
 | [],_=>rfl
 |o::os,i=>by
  simp only[dV,Af,fV os (i+1)]
  cases o<;>simp[cB]
theorem gM{h:H}{rs:List (List Int)}:(aI rs).map (cB 0 h 0)=aI rs:=by
 simp[aI,cB]
theorem eK{nf:Nat}{h:H}:∀(xs ys:List A),aQ nf h (xs++ys)=aQ nf h xs++aQ nf h ys
 | [],ys=>by simp[aQ]
 |x::xs,ys=>by simp[aQ,eK xs ys]
theorem fR{h:H}:∀ {rs:List (List Int)} {b:Nat},(∀i,i<rs.length->a6 h (b+i)=some 0)->aQ 0 h (aB b rs)=aB b rs
 | [],b,_=>by simp[aB,aQ]
 |r::rs,b,hh=>by
  have h0:=hh 0 sm;simp only[Bm]at h0;simp only[aB,aQ,bJ,gS,Bz,if_false,h0,if_true]
  rw[fR (rs:=rs) (b:=b+1) fun i hi=>by
   rw[show b+1+i=b+(i+1) by omega];exact hh (i+1) (by simp;omega)]
theorem aPJ{f:Nat->Option Nat}{h:H}{b:Nat}{rs:List (List Int)}(hh:∀(i:Nat) (r:List Int),rs[i]? =some r->h[b+i]? =some (.arr (ints r) 1 0)):(List.range' b rs.length).map (fun i=>mapO f (h.getD i default))=aI rs:=aEJ hh
theorem GS{rs:List (List Int)}{p:H}{i:Nat}{r:List Int}(h:rs[i]? =some r):(aI rs++p)[i]? =some (.arr (ints r) 1 0):=by
 rw[Be (by rw[cC];exact sF h)];exact V1 h
theorem QB{b k:Nat}{rs:List (List Int)}(h:k=rs.length):(aB b rs++aG 0).take k=aB b rs:=by
 have hn:aG 0=[]:=rfl;rw[hn,Ah,Ca (by rw[kN];omega)]
section
variable{x0 x1:D}{k z:Nat}{cs cr:List D}{d:List (List Int)}{p:H}
theorem bL{h:H}{i:Nat}{r:List D}{e g:Nat}(hr:h[i]? =some (.arr r e g)):kids h i=[]:=by simp only[kids,hr]
mutual
theorem aPh{f g:Nat->Option Nat}:∀a:A,(∀i∈idsA a,f i=g i)->mapA f a=mapA g a
 |.d x,_=>by simp only[mapA]
 |.sl id gen off len,hi=>by simp only[mapA,hi id (by simp[idsA])]
 |.ptr id gen off,hi=>by simp only[mapA,hi id (by simp[idsA])]
 |.mp id,hi=>by simp only[mapA,hi id (by simp[idsA])]
 |.clo q caps,hi=>by simp only[mapA];rw[kQ caps (by simpa only[idsA]using hi)]
 |.agg cs,hi=>by simp only[mapA];rw[kQ cs (by simpa only[idsA]using hi)]
 |.tup cs,hi=>by simp only[mapA];rw[kQ cs (by simpa only[idsA]using hi)]
 |.junk,_=>by simp only[mapA]
theorem kQ{f g:Nat->Option Nat}:∀xs:List A,(∀i∈idsL xs,f i=g i)->aE f xs=aE g xs
 | [],_=>by simp only[aE]
 |a::xs,hi=>by
  simp only[idsL,Aq]at hi;simp only[aE];rw[aPh a fun i h=>hi i (.inl h),kQ xs fun i h=>hi i (.inr h)]
end
mutual
theorem aQ9{f:Nat->Option Nat}:∀a:A,z0A a=true->z0A (mapA f a)=true
 |.d x,_=>by simp only[mapA,z0A]
 |.sl id gen off len,hz=>by simp only[mapA];cases f id<;>first|rfl|exact hz
 |.ptr id gen off,hz=>by simp only[mapA];cases f id<;>first|rfl|exact hz
 |.mp id,hz=>by simp only[mapA];cases f id<;>first|rfl|exact hz
 |.clo q caps,hz=>by simp only[mapA,z0A]at hz|-;exact zJ caps hz
 |.agg cs,hz=>by simp only[mapA,z0A]at hz|-;exact zJ cs hz
 |.tup cs,hz=>by simp only[mapA,z0A]at hz|-;exact zJ cs hz
 |.junk,_=>by simp only[mapA,z0A]
theorem zJ{f:Nat->Option Nat}:∀xs:List A,z0As xs=true->z0As (aE f xs)=true
 | [],_=>by simp only[aE,z0As]
 |a::xs,hz=>by
  simp only[z0As,Aj]at hz;simp only[aE,z0As,Aj];exact⟨aQ9 a hz.1,zJ xs hz.2⟩
end
end
theorem iF{h p:H}{d:List (List Int)}(B:Nat)(hd:h.drop B=aI d++p):∀(i:Nat) (r:List Int),d[i]? =some r->h[B+i]? =some (.arr (ints r) 1 0):=by
 intro i r hr;rw[<-List.getElem?_drop,hd];exact GS hr
theorem xL{h p:H}{d:List (List Int)}(B q:Nat)(hd:h.drop B=aI d++p){o:O}(ho:p[q]? =some o){j:Nat}(hj:j=d.length+(B+q)):h[j]? =some o:=by
 subst hj;rw[show d.length+(B+q)=B+(d.length+q) by omega,<-List.getElem?_drop,hd,Bq (by rw[cC];omega),cC,Dv];exact ho
theorem i8{h:H}{d:List (List Int)}{B:Nat}(gr:∀(i:Nat) (r:List Int),d[i]? =some r->h[B+i]? =some (.arr (ints r) 1 0)):∀i∈List.range' B d.length,∃r:List Int,h[i]? =some (.arr (ints r) 1 0):=by
 intro i hi;rw[Cx]at hi;obtain⟨j,rfl⟩:∃j,i=B+j:=⟨i-B,by omega⟩
 exact⟨d[j]'om,gr j _ (Ae om)⟩
theorem gH{h:H}{ids P T L:List Nat}{B n N:Nat}(hfix:P++(T++(List.range' B n++L))=ids++P.flatMap (kids h))(hprog:∀k,k<P.length->k<ids.length+((P.take k).flatMap (kids h)).length)
  (leaf:∀i∈List.range' B n,∃r:List Int,h[i]? =some (.arr (ints r) 1 0)) (hT:∀i∈T++L,∃cs e g,h[i]? =some (.arr cs e g)) (hP:∀i∈P,∃o,h[i]? =some o/\o≠.void)
  (hnd:(P++(T++L)).Nodup) (hout:∀i∈P++(T++L),i<B\/B+n<=i) (hf:P.length+T.length+n+L.length<=N):aD N h ids []=P++(T++(List.range' B n++L)):=by
 refine aNf hfix ?_ hprog ?_ ?_ ?_
 ·intro i hi
  rcases Aq.1 hi with h1|h1
  ·obtain⟨cs,e,g,h2⟩:=hT i (Aq.2 (.inl h1));exact bL h2
  ·rcases Aq.1 h1 with h2|h2
   ·obtain⟨r,hr⟩:=leaf i h2;exact bL hr
   ·obtain⟨cs,e,g,h3⟩:=hT i (Aq.2 (.inr h2));exact bL h3
 ·have hp:(P++(T++(List.range' B n++L))).Perm (List.range' B n++(P++(T++L))):=by
   have e1:(T++(List.range' B n++L)).Perm (List.range' B n++(T++L)):=by
    rw[<-Ao T _ L,<-Ao _ T L];exact List.Perm.append_right L List.perm_append_comm
   refine(List.Perm.append_left P e1).trans ?_;rw[<-Ao P _ (T++L),<-Ao _ P (T++L)];exact List.Perm.append_right (T++L) List.perm_append_comm
  rw[hp.nodup_iff,List.nodup_append];refine⟨List.nodup_range',hnd,fun a ha b hb e=> ?_⟩;subst e;rw[Cx]at ha;have:=hout a hb;omega
 ·intro i hi
  rcases Aq.1 hi with h1|h1
  ·exact hP i h1
  ·rcases Aq.1 h1 with h1|h1
   ·obtain⟨cs,e,g,h2⟩:=hT i (Aq.2 (.inl h1));exact⟨_,h2,by simp⟩
   ·rcases Aq.1 h1 with h2|h2
    ·obtain⟨r,hr⟩:=leaf i h2;exact⟨_,hr,by simp⟩
    ·obtain⟨cs,e,g,h3⟩:=hT i (Aq.2 (.inr h2));exact⟨_,h3,by simp⟩
 ·simp only[Ai,Ee];omega
theorem jC{ord A L:List Nat}{B C n:Nat}(pk:∀i j,ord[j]? =some i->aH ord i=some j)(ho:ord=A++(List.range' B n++L))(hA:A.length=C):∀i,i<n->aH ord (B+i)=some (C+i):=by
 intro i hi;refine pk _ _ ?_;rw[ho,Bq om,hA,Dv,Be (by simpa using hi),List.getElem?_range' hi];simp
theorem SZ{ord A L:List Nat}{B C n:Nat}(pk:∀i j,ord[j]? =some i->aH ord i=some j)(ho:ord=A++(List.range' B n++L))(hA:A.length=C)(q:Nat){i j:Nat}(hq:L[q]? =some i)(hj:j=n+(C+q)):aH ord i=some j:=by
 subst hj;refine pk _ _ ?_;rw[ho,Bq om,hA,show n+(C+q)-C=n+q by omega,Bq sm,Ee,Dv];exact hq
theorem nT{K p:H}{d:List (List Int)}{C:Nat}(hd:K.drop C=aI d++p):∀i,i<d.length->a6 K (C+i)=some 0:=by
 intro i hi;have:=iF C hd i _ (Ae hi);simp only[a6,this]
theorem kR{h:H}{ord A L:List Nat}{d:List (List Int)}{B:Nat}(ho:ord=A++(List.range' B d.length++L))(gr:∀(i:Nat) (r:List Int),d[i]? =some r->h[B+i]? =some (.arr (ints r) 1 0)):pack h ord=A.map (fun i=>mapO (aH ord) (h.getD i default))++(aI d++L.map (fun i=>mapO (aH ord) (h.getD i default))):=by
 unfold pack
 conv=>lhs;arg 2;rw[ho]
 rw[Dp,Dp,aPJ gr]
end
mutual
theorem aPR{p:H}(h0:a6 p 0=none):∀a:A,bJ 1 p a=bJ 0 p a
 |.d x=>by simp only[bJ]
 |.sl id gen off len=>by
  simp only[bJ,gS,Bz,if_false]
  by_cases hi:id<1
  ·obtain rfl:id=0:=om;simp[h0]
  ·rw[if_neg hi]
 |.ptr id gen off=>by
  simp only[bJ,IE,Bz,if_false]
  by_cases hi:id<1
  ·obtain rfl:id=0:=om;simp[h0]
  ·rw[if_neg hi]
 |.mp id=>by simp only[bJ]
 |.clo g cs=>by simp only[bJ];rw[xK h0 cs]
 |.agg cs=>by simp only[bJ];rw[xK h0 cs]
 |.tup cs=>by simp only[bJ];rw[xK h0 cs]
 |.junk=>by simp only[bJ]
theorem xK{p:H}(h0:a6 p 0=none):∀xs:List A,aQ 1 p xs=aQ 0 p xs
 | []=>by simp only[aQ]
 |x::xs=>by simp only[aQ];rw[aPR h0 x,xK h0 xs]
end
theorem aPn{p:H}(h0:a6 p 0=none){i:Nat}(hi:1<=i)(o:O):cB 1 p i o=cB 0 p i o:=by
 cases o<;>simp only[cB,Bz,if_false,xK h0,if_neg (show ¬i<1 by omega)]
theorem Y9{p:H}(h0:a6 p 0=none):∀(os:H) (i:Nat),1<=i->dV 1 p i os=dV 0 p i os
 | [],i,_=>rfl
 |o::os,i,hi=>by simp only[dV];rw[aPn h0 hi,Y9 h0 os (i+1) om]
theorem aEb{x y:D}{t:H}{l:List Nat}{s:List A}:trim 1 (.box [.d x,.d y]::t) (0::l) s=trim 0 (.box [.d x,.d y]::t) (0::l) s:=by
 have hp:pack (.box [.d x,.d y]::t) (0::l)=.box [.d x,.d y]::l.map fun i=>mapO (aH (0::l)) ((O.box [.d x,.d y]::t).getD i default):=by
  simp[pack,mapO,aE,mapA]
 have h0:a6 (pack (.box [.d x,.d y]::t) (0::l)) 0=none:=by rw[hp];rfl
 unfold trim;rw[xK h0]
 congr 1
 unfold cM;generalize hq:pack (.box [.d x,.d y]::t) (0::l)=p at *;obtain⟨os,hos⟩:∃os,p=.box [.d x,.d y]::os:=⟨_,hp⟩
 have key:∀w:H,w=.box [.d x,.d y]::os->dV 1 p 0 w=dV 0 p 0 w:=by
  intro w hw;subst hw;simp only[dV];rw[Y9 h0 _ (0+1) (Ad _)];simp only[cB,aQ,bJ]
 exact key p hos
theorem aPV{x y:D}{t:H}{n:Nat}{l:List Nat}:aD (n+1) (.box [.d x,.d y]::t) (0::l) [0]=aD n (.box [.d x,.d y]::t) l [0]:=by
 simp[aD]
theorem OZ{x y:D}{t:H}{n:Nat}{l:List Nat}:aD (n+1) (.box [.d x,.d y]::t) (0::l) []=aD n (.box [.d x,.d y]::t) l [0]:=by
 simp[aD,idsL,idsA]
theorem kO:∀(n:Nat) (h:H) (todo acc:List Nat),∃q,aD n h todo acc=acc++q
 |0,h,todo,acc=>⟨[],by simp[aD]⟩
 |n+1,h,[],acc=>⟨[],by simp[aD]⟩
 |n+1,h,i::todo,acc=>by
  unfold aD
  split
  ·exact kO n h todo acc
  ·split
   ·obtain⟨q,hq⟩:=kO n h (todo++idsL _) (acc++[i]);exact⟨i::q,by rw[hq];simp⟩
   ·obtain⟨q,hq⟩:=kO n h (todo++idsL _) (acc++[i]);exact⟨i::q,by rw[hq];simp⟩
   ·exact kO n h todo acc
   ·obtain⟨q,hq⟩:=kO n h todo (acc++[i]);exact⟨i::q,by rw[hq];simp⟩
   ·exact kO n h todo acc
theorem aRd{x y:D}{t:H}{l:List Nat}:dI 1 (.box [.d x,.d y]::t) (0::l)=dI 0 (.box [.d x,.d y]::t) (0::l):=by
 rw[sO,sO];have e1:f9 (List.take 1 (O.box [.d x,.d y]::t))++0::l=0::l:=by simp[f9,idsL,idsA]
 have e2:f9 (List.take 0 (O.box [.d x,.d y]::t))++0::l=0::l:=by simp[f9]
 have e3:List.range 1=[0]:=rfl;have e4:List.range 0=([]:List Nat):=rfl;rw[e1,e2,e3,e4,show(1099511627776:Nat)=1099511627775+1 from rfl,aPV,OZ]
theorem aHO{x y:D}{t:H}{l:List Nat}:dI 1 (.box [.d x,.d y]::t) l=aD (aF+1) (.box [.d x,.d y]::t) (0::l) []:=by
 rw[sO,OZ];have e1:f9 (List.take 1 (O.box [.d x,.d y]::t))++l=l:=by simp[f9,idsL,idsA]
 have e3:List.range 1=[0]:=rfl;rw[e1,e3];rfl
theorem aSZ{m:List Bool}{s:List A}{x y:D}{t:H}{l:List Nat}(hid:idsL (tidy m s)=0::l):gc 1 m s (.box [.d x,.d y]::t)=gc 0 m s (.box [.d x,.d y]::t):=by
 unfold gc;rw[hid,aRd];obtain⟨q,hq⟩:=kO 1099511627775 (.box [.d x,.d y]::t) l [0]
 have:dI 0 (.box [.d x,.d y]::t) (0::l)=0::q:=by
  rw[sO];have e2:f9 (List.take 0 (O.box [.d x,.d y]::t))++0::l=0::l:=by simp[f9]
  have e4:List.range 0=([]:List Nat):=rfl;rw[e2,e4,show(1099511627776:Nat)=1099511627775+1 from rfl,OZ,hq];rfl
 rw[this,aEb]
theorem S0{m:List Bool}{s:List A}{x y:D}{t h:H}{l:List Nat}(hh:O.box [.d x,.d y]::t=h)(hid:idsL (tidy m s)=0::l):gc 1 m s h=gc 0 m s h:=by
 subst hh;exact aSZ hid
theorem aCl{m:List Bool}{s:List A}{x y:D}{t h:H}{l ord:List Nat}(hh:O.box [.d x,.d y]::t=h)(hi:idsL (tidy m s)=l)(hr:aD (aF+1) h (0::l) []=ord):gc 1 m s h=(aQ 0 (pack h ord) (aE (aH ord) (tidy m s)),cM 0 (pack h ord)):=by
 subst hh;unfold gc;rw[hi,aHO,hr];obtain⟨q,hq⟩:=kO aF (.box [.d x,.d y]::t) l [0]
 have e:ord=0::q:=by
  rw[<-hr,OZ,hq];rfl
 rw[e,aEb];rfl
def W6(n:Nat)(ids:List Nat):Bool:=decide (ids=[3,n+8])
theorem aLE{n:Nat}{ke2:Nat}(he2:ke2=n+8):W6 n [3,ke2]=true:=by subst he2;simp[W6]
def GQ(n i:Nat):Option Nat:=if i=0 then some 0 else if i=3 then some 1 else if i=n+8 then some 2 else none
theorem aFu{n:Nat}:GQ n 3=some (1):=by unfold GQ;repeat (first|rfl|rw[if_pos rfl]|rw[if_neg om])
theorem aCK{n k:Nat}(h:k=n+8):GQ n k=some (2):=by subst h;unfold GQ;repeat (first|rfl|rw[if_pos rfl]|rw[if_neg om])
theorem aQU{m:List Bool}{s:List A}{y1 y2 x0 x1:D}{k z:Nat}{cs:List D}{d:List (List Int)}(hl:d.length<=4294967296):gc 1 m s (.box [.d y1,.d y2]::.arr [] 0 0::.arr [] 0 0::.box [.d x0,.sl 1 0 0 0,.sl 2 0 0 0]::.vec (aB 6 d++aG 0) 1 0::.arr cs 1 0::(aI d++[.arr [] 0 0,.arr [] 0 0,.box [.d x1,.sl 4 0 0 k,.sl 5 0 0 z]]))=match box (tidy m s)with
  |.mk s1=>if W6 d.length (idsL s1)=true/\z0As s1=true then(aE (GQ d.length) s1,.box [.d y1,.d y2]::.box [.d x0,.sl 3 0 0 0,.sl 4 0 0 0]::.box [.d x1,.sl 5 0 0 k,.sl 6 0 0 z]::.arr [] 0 0::.arr [] 0 0::.vec (aB 7 d++aG 0) 1 0::.arr cs 1 0::aI d)else gcO 1 m s (.box [.d y1,.d y2]::.arr [] 0 0::.arr [] 0 0::.box [.d x0,.sl 1 0 0 0,.sl 2 0 0 0]::.vec (aB 6 d++aG 0) 1 0::.arr cs 1 0::(aI d++[.arr [] 0 0,.arr [] 0 0,.box [.d x1,.sl 4 0 0 k,.sl 5 0 0 z]]))
  |.no=>([],[]):=by
 simp only[box]
 split
 ·rename_i hc
  obtain⟨hb,hz⟩:=hc;have hids:idsL (tidy m s)=[3,d.length+8]:=by simpa [W6]using hb
  obtain⟨h,hh⟩:∃h:H,O.box [.d y1,.d y2]::.arr [] 0 0::.arr [] 0 0::.box [.d x0,.sl 1 0 0 0,.sl 2 0 0 0]::.vec (aB 6 d++aG 0) 1 0::.arr cs 1 0::(aI d++[.arr [] 0 0,.arr [] 0 0,.box [.d x1,.sl 4 0 0 k,.sl 5 0 0 z]])=h:=⟨_,rfl⟩
  conv=>lhs;rw[hh]
  have g0:h[0]? =some (.box [.d y1,.d y2]):=by rw[<-hh];rfl
  have g1:h[1]? =some (.arr [] 0 0):=by rw[<-hh];rfl
  have g2:h[2]? =some (.arr [] 0 0):=by rw[<-hh];rfl
  have g3:h[3]? =some (.box [.d x0,.sl 1 0 0 0,.sl 2 0 0 0]):=by rw[<-hh];rfl
  have g4:h[4]? =some (.vec (aB 6 d++aG 0) 1 0):=by rw[<-hh];rfl
  have g5:h[5]? =some (.arr cs 1 0):=by rw[<-hh];rfl
  have hD:h.drop 6=aI d++[.arr [] 0 0,.arr [] 0 0,.box [.d x1,.sl 4 0 0 k,.sl 5 0 0 z]]:=by rw[<-hh];rfl
  have gr:=iF 6 hD;have ge2:h[d.length+8]? =some (.box [.d x1,.sl 4 0 0 k,.sl 5 0 0 z]):=xL 6 2 hD rfl om;have k0:kids h (0)=[]:=by simp[kids,g0,idsL,idsA]
  have k3:kids h (3)=[1,2]:=by simp[kids,g3,idsL,idsA]
  have ke2:kids h (d.length+8)=[4,5]:=by simp[kids,ge2,idsL,idsA]
  have k1:kids h (1)=[]:=bL g1;have k2:kids h (2)=[]:=bL g2;have k4:kids h (4)=List.range' 6 d.length:=by simp[kids,g4,bM,bY,dO]
  have leaf:=i8 gr;have hr:aD (aF+1) h [0,3,d.length+8] []=[0,3,d.length+8,1,2,4]++([5]++(List.range' 6 d.length++[])):=gH (by simp[k0,k3,ke2,k1,k2,k4]) (by intro q hq;simp only[Ac,Ab]at hq;have:q=0\/q=1\/q=2\/q=3\/q=4\/q=5:=om;rcases this with rfl|rfl|rfl|rfl|rfl|rfl<;>simp[k0,k3,ke2,k1,k2]) leaf (by intro i hi;simp at hi;subst hi;exact⟨_,_,_,by assumption⟩) (by intro i hi;simp at hi;rcases hi with rfl|rfl|rfl|rfl|rfl|rfl<;>exact⟨_,by assumption,by simp⟩) (by simp<;>omega) (by intro i hi;simp at hi;omega) (by simp only[aF,Ac,Ab];omega);generalize hord:[0,3,d.length+8,1,2,4]++([5]++(List.range' 6 d.length++[]))=ord at hr;have hA:ord=([0,3,d.length+8,1,2,4]++[5])++(List.range' 6 d.length++[]):=by rw[<-hord,Ao]
  have pk:∀i j,ord[j]? =some i->aH ord i=some j:=fun i j h1=>dP (by rw[<-hr];exact bT (aF+1) h _ [] sm) h1;have p0:=pk (0) 0 (by rw[<-hord];rfl);have p3:=pk (3) 1 (by rw[<-hord];rfl);have pe2:=pk (d.length+8) 2 (by rw[<-hord];rfl);have p1:=pk (1) 3 (by rw[<-hord];rfl);have p2:=pk (2) 4 (by rw[<-hord];rfl);have p4:=pk (4) 5 (by rw[<-hord];rfl);have p5:=pk (5) 6 (by rw[<-hord];rfl);have pr:=jC (C:=7) pk hA rfl;obtain⟨K,hK⟩:∃K:H,O.box [.d y1,.d y2]::.box [.d x0,.sl 3 0 0 0,.sl 4 0 0 0]::.box [.d x1,.sl 5 0 0 k,.sl 6 0 0 z]::.arr [] 0 0::.arr [] 0 0::.vec (aB 7 d++aG 0) 1 0::.arr cs 1 0::aI d=K:=⟨_,rfl⟩
  have hni:∀f,aE f (aG 0)=aG 0:=fun _=>rfl
  have hpk:pack h ord=K:=by
   have hrf:aE (aH ord) (aB 6 d)=aB 7 d:=fC (c:=0) pr;rw[kR hA gr,<-hK];simp only[As,Am,Af,Al,Aa,g0,g3,ge2,g1,g2,g4,g5,Bd,mapO,aE,mapA,dB,hrf,hni,p1,p2,p4,p5,Ah]
  have hKD:K.drop 7=aI d++[]:=by rw[<-hK];exact(Ah _).symm
  have hgr:=nT hKD
  have hcm:cM 0 K=.box [.d y1,.d y2]::.box [.d x0,.sl 3 0 0 0,.sl 4 0 0 0]::.box [.d x1,.sl 5 0 0 k,.sl 6 0 0 z]::.arr [] 0 0::.arr [] 0 0::.vec (aB 7 d++aG 0) 1 0::.arr cs 1 0::aI d:=by
   have hrf:aQ 0 K (aB 7 d)=aB 7 d:=fR hgr;have hnc:∀h:H,aQ 0 h (aG 0)=aG 0:=fun _=>rfl;have q3:a6 K 3=some 0:=by rw[<-hK];rfl
   have q4:a6 K 4=some 0:=by rw[<-hK];rfl
   have q5:a6 K 5=some 0:=by rw[<-hK];rfl
   have q6:a6 K 6=some 0:=by rw[<-hK];rfl
   unfold cM;rw[fV]
   conv=>lhs;arg 2;rw[<-hK]
   simp only[Af,cB,aQ,bJ,gS,eK,hrf,hnc,gM,q3,q4,q5,q6,Bz,if_false,if_true]
  subst hK;rw[aCl hh hids hr,hpk,hcm]
  have hmp:aE (aH ord) (tidy m s)=aE (GQ d.length) (tidy m s):=by
   apply kQ;rw[hids];intro i hi;simp only[Au,Bv,or_false]at hi
   rcases hi with rfl|rfl
   ·rw[p3,aFu]
   ·rw[pe2,aCK rfl]
  have hz2:aQ 0 (O.box [.d y1,.d y2]::.box [.d x0,.sl 3 0 0 0,.sl 4 0 0 0]::.box [.d x1,.sl 5 0 0 k,.sl 6 0 0 z]::.arr [] 0 0::.arr [] 0 0::.vec (aB 7 d++aG 0) 1 0::.arr cs 1 0::aI d) (aE (aH ord) (tidy m s))=aE (aH ord) (tidy m s):=by
   exact kI (HD (by simp[z0O,z0As,z0A,BS,xB,xG,H7])) _ (zJ _ hz)
  rw[hz2,hmp]
 ·rfl
def BN(n i:Nat):Option Nat:=if i=0 then some 0 else if i=1 then some 1 else if i=2 then some 2 else none
theorem rN{n:Nat}:BN n 1=some (1):=by unfold BN;repeat (first|rfl|rw[if_pos rfl]|rw[if_neg om])
theorem rX{n:Nat}:BN n 2=some (2):=by unfold BN;repeat (first|rfl|rw[if_pos rfl]|rw[if_neg om])
theorem GP{m:List Bool}{s:List A}{y1 y2 x0 x1:D}{k z:Nat}{cs:List D}{d:List (List Int)}(hl:d.length<=4294967296):gc 1 m s (.box [.d y1,.d y2]::.box [.d x0,.sl 3 0 0 0,.sl 4 0 0 0]::.box [.d x1,.sl 5 0 0 k,.sl 6 0 0 z]::.arr [] 0 0::.arr [] 0 0::.vec (aB 7 d++aG 0) 1 0::.arr cs 1 0::aI d)=match box (tidy m s)with
  |.mk s1=>if idsL s1=[1,2]/\z0As s1=true then(aE (BN d.length) s1,.box [.d y1,.d y2]::.box [.d x0,.sl 3 0 0 0,.sl 4 0 0 0]::.box [.d x1,.sl 5 0 0 k,.sl 6 0 0 z]::.arr [] 0 0::.arr [] 0 0::.vec (aB 7 d++aG 0) 1 0::.arr cs 1 0::aI d)else gcO 1 m s (.box [.d y1,.d y2]::.box [.d x0,.sl 3 0 0 0,.sl 4 0 0 0]::.box [.d x1,.sl 5 0 0 k,.sl 6 0 0 z]::.arr [] 0 0::.arr [] 0 0::.vec (aB 7 d++aG 0) 1 0::.arr cs 1 0::aI d)
  |.no=>([],[]):=by
 simp only[box]
 split
 ·rename_i hc
  obtain⟨hb,hz⟩:=hc;have hids:idsL (tidy m s)=[1,2]:=by exact hb
  obtain⟨h,hh⟩:∃h:H,O.box [.d y1,.d y2]::.box [.d x0,.sl 3 0 0 0,.sl 4 0 0 0]::.box [.d x1,.sl 5 0 0 k,.sl 6 0 0 z]::.arr [] 0 0::.arr [] 0 0::.vec (aB 7 d++aG 0) 1 0::.arr cs 1 0::aI d=h:=⟨_,rfl⟩
  conv=>lhs;rw[hh]
  have g0:h[0]? =some (.box [.d y1,.d y2]):=by rw[<-hh];rfl
  have g1:h[1]? =some (.box [.d x0,.sl 3 0 0 0,.sl 4 0 0 0]):=by rw[<-hh];rfl
  have g2:h[2]? =some (.box [.d x1,.sl 5 0 0 k,.sl 6 0 0 z]):=by rw[<-hh];rfl
  have g3:h[3]? =some (.arr [] 0 0):=by rw[<-hh];rfl
  have g4:h[4]? =some (.arr [] 0 0):=by rw[<-hh];rfl
  have g5:h[5]? =some (.vec (aB 7 d++aG 0) 1 0):=by rw[<-hh];rfl
  have g6:h[6]? =some (.arr cs 1 0):=by rw[<-hh];rfl
  have hD:h.drop 7=aI d++[]:=by rw[<-hh];exact(Ah _).symm
  have gr:=iF 7 hD;have k0:kids h (0)=[]:=by simp[kids,g0,idsL,idsA]
  have k1:kids h (1)=[3,4]:=by simp[kids,g1,idsL,idsA]
  have k2:kids h (2)=[5,6]:=by simp[kids,g2,idsL,idsA]
  have k3:kids h (3)=[]:=bL g3;have k4:kids h (4)=[]:=bL g4;have k5:kids h (5)=List.range' 7 d.length:=by simp[kids,g5,bM,bY,dO]
  have leaf:=i8 gr;have hr:aD (aF+1) h [0,1,2] []=[0,1,2,3,4,5]++([6]++(List.range' 7 d.length++[])):=gH (by simp[k0,k1,k2,k3,k4,k5]) (by intro q hq;simp only[Ac,Ab]at hq;have:q=0\/q=1\/q=2\/q=3\/q=4\/q=5:=om;rcases this with rfl|rfl|rfl|rfl|rfl|rfl<;>simp[k0,k1,k2,k3,k4]) leaf (by intro i hi;simp at hi;subst hi;exact⟨_,_,_,by assumption⟩) (by intro i hi;simp at hi;rcases hi with rfl|rfl|rfl|rfl|rfl|rfl<;>exact⟨_,by assumption,by simp⟩) (by simp<;>omega) (by intro i hi;simp at hi;omega) (by simp only[aF,Ac,Ab];omega);generalize hord:[0,1,2,3,4,5]++([6]++(List.range' 7 d.length++[]))=ord at hr;have hA:ord=([0,1,2,3,4,5]++[6])++(List.range' 7 d.length++[]):=by rw[<-hord,Ao]
  have pk:∀i j,ord[j]? =some i->aH ord i=some j:=fun i j h1=>dP (by rw[<-hr];exact bT (aF+1) h _ [] sm) h1;have p0:=pk (0) 0 (by rw[<-hord];rfl);have p1:=pk (1) 1 (by rw[<-hord];rfl);have p2:=pk (2) 2 (by rw[<-hord];rfl);have p3:=pk (3) 3 (by rw[<-hord];rfl);have p4:=pk (4) 4 (by rw[<-hord];rfl);have p5:=pk (5) 5 (by rw[<-hord];rfl);have p6:=pk (6) 6 (by rw[<-hord];rfl);have pr:=jC (C:=7) pk hA rfl;obtain⟨K,hK⟩:∃K:H,O.box [.d y1,.d y2]::.box [.d x0,.sl 3 0 0 0,.sl 4 0 0 0]::.box [.d x1,.sl 5 0 0 k,.sl 6 0 0 z]::.arr [] 0 0::.arr [] 0 0::.vec (aB 7 d++aG 0) 1 0::.arr cs 1 0::aI d=K:=⟨_,rfl⟩
  have hni:∀f,aE f (aG 0)=aG 0:=fun _=>rfl
  have hpk:pack h ord=K:=by
   have hrf:aE (aH ord) (aB 7 d)=aB 7 d:=fC (c:=0) pr;rw[kR hA gr,<-hK];simp only[As,Am,Af,Al,Aa,g0,g1,g2,g3,g4,g5,g6,Bd,mapO,aE,mapA,dB,hrf,hni,p3,p4,p5,p6,Ah]
  have hKD:K.drop 7=aI d++[]:=by rw[<-hK];exact(Ah _).symm
  have hgr:=nT hKD
  have hcm:cM 0 K=.box [.d y1,.d y2]::.box [.d x0,.sl 3 0 0 0,.sl 4 0 0 0]::.box [.d x1,.sl 5 0 0 k,.sl 6 0 0 z]::.arr [] 0 0::.arr [] 0 0::.vec (aB 7 d++aG 0) 1 0::.arr cs 1 0::aI d:=by
   have hrf:aQ 0 K (aB 7 d)=aB 7 d:=fR hgr;have hnc:∀h:H,aQ 0 h (aG 0)=aG 0:=fun _=>rfl;have q3:a6 K 3=some 0:=by rw[<-hK];rfl
   have q4:a6 K 4=some 0:=by rw[<-hK];rfl
   have q5:a6 K 5=some 0:=by rw[<-hK];rfl
   have q6:a6 K 6=some 0:=by rw[<-hK];rfl
   unfold cM;rw[fV]
   conv=>lhs;arg 2;rw[<-hK]
   simp only[Af,cB,aQ,bJ,gS,eK,hrf,hnc,gM,q3,q4,q5,q6,Bz,if_false,if_true]
  subst hK;rw[aCl hh hids hr,hpk,hcm]
  have hmp:aE (aH ord) (tidy m s)=aE (BN d.length) (tidy m s):=by
   apply kQ;rw[hids];intro i hi;simp only[Au,Bv,or_false]at hi
   rcases hi with rfl|rfl
   ·rw[p1,rN]
   ·rw[p2,rX]
  have hz2:aQ 0 (O.box [.d y1,.d y2]::.box [.d x0,.sl 3 0 0 0,.sl 4 0 0 0]::.box [.d x1,.sl 5 0 0 k,.sl 6 0 0 z]::.arr [] 0 0::.arr [] 0 0::.vec (aB 7 d++aG 0) 1 0::.arr cs 1 0::aI d) (aE (aH ord) (tidy m s))=aE (aH ord) (tidy m s):=by
   exact kI (HD (by simp[z0O,z0As,z0A,BS,xB,xG,H7])) _ (zJ _ hz)
  rw[hz2,hmp]
 ·rfl
theorem aQ5{m:List Bool}{s:List A}{y1 y2 x0 x1:D}{k z:Nat}{r:List Int}{cs:List D}{d:List (List Int)}{p:H}(hl:d.length<=4294967296):gc 1 m s (.box [.d y1,.d y2]::.box [.d x0,.sl 4 0 0 0,.sl 5 0 0 0]::.box [.d x1,.sl 6 1 0 k,.sl 7 1 0 z]::.arr (ints r) 1 0::.arr [] 0 0::.arr [] 0 0::.vec (aB 8 d++[.sl 3 0 0 r.length]) 1 1::.arr cs 1 1::(aI d++p))=match box (tidy m s)with
  |.mk s1=>if idsL s1=[0,1,2]then(aQ 0 (.box [.d y1,.d y2]::.box [.d x0,.sl 3 0 0 0,.sl 4 0 0 0]::.box [.d x1,.sl 5 1 0 k,.sl 6 1 0 z]::.arr [] 0 0::.arr [] 0 0::.vec (aB 7 d++[.sl (d.length+7) 0 0 r.length]) 1 1::.arr cs 1 1::(aI d++[.arr (ints r) 1 0])) (s1),.box [.d y1,.d y2]::.box [.d x0,.sl 3 0 0 0,.sl 4 0 0 0]::.box [.d x1,.sl 5 0 0 k,.sl 6 0 0 z]::.arr [] 0 0::.arr [] 0 0::.vec (aB 7 d++[.sl (d.length+7) 0 0 r.length]) 1 0::.arr cs 1 0::(aI d++[.arr (ints r) 1 0]))else gcO 1 m s (.box [.d y1,.d y2]::.box [.d x0,.sl 4 0 0 0,.sl 5 0 0 0]::.box [.d x1,.sl 6 1 0 k,.sl 7 1 0 z]::.arr (ints r) 1 0::.arr [] 0 0::.arr [] 0 0::.vec (aB 8 d++[.sl 3 0 0 r.length]) 1 1::.arr cs 1 1::(aI d++p))
  |.no=>([],[]):=by
 simp only[box]
 split
 ·rename_i hc
  have hb:=hc;have hids:idsL (tidy m s)=[0,1,2]:=by exact hb
  obtain⟨h,hh⟩:∃h:H,O.box [.d y1,.d y2]::.box [.d x0,.sl 4 0 0 0,.sl 5 0 0 0]::.box [.d x1,.sl 6 1 0 k,.sl 7 1 0 z]::.arr (ints r) 1 0::.arr [] 0 0::.arr [] 0 0::.vec (aB 8 d++[.sl 3 0 0 r.length]) 1 1::.arr cs 1 1::(aI d++p)=h:=⟨_,rfl⟩
  conv=>lhs;rw[hh]
  have g0:h[0]? =some (.box [.d y1,.d y2]):=by rw[<-hh];rfl
  have g1:h[1]? =some (.box [.d x0,.sl 4 0 0 0,.sl 5 0 0 0]):=by rw[<-hh];rfl
  have g2:h[2]? =some (.box [.d x1,.sl 6 1 0 k,.sl 7 1 0 z]):=by rw[<-hh];rfl
  have g3:h[3]? =some (.arr (ints r) 1 0):=by rw[<-hh];rfl
  have g4:h[4]? =some (.arr [] 0 0):=by rw[<-hh];rfl
  have g5:h[5]? =some (.arr [] 0 0):=by rw[<-hh];rfl
  have g6:h[6]? =some (.vec (aB 8 d++[.sl 3 0 0 r.length]) 1 1):=by rw[<-hh];rfl
  have g7:h[7]? =some (.arr cs 1 1):=by rw[<-hh];rfl
  have hD:h.drop 8=aI d++p:=by rw[<-hh];rfl
  have gr:=iF 8 hD;have k0:kids h (0)=[]:=by simp[kids,g0,idsL,idsA]
  have k1:kids h (1)=[4,5]:=by simp[kids,g1,idsL,idsA]
  have k2:kids h (2)=[6,7]:=by simp[kids,g2,idsL,idsA]
  have k4:kids h (4)=[]:=bL g4;have k5:kids h (5)=[]:=bL g5;have k6:kids h (6)=List.range' 8 d.length++[3]:=by simp[kids,g6,bM,bY,idsL,idsA]
  have leaf:=i8 gr;have hr:aD aF h [0,1,2] []=[0,1,2,4,5,6]++([7]++(List.range' 8 d.length++[3])):=gH (by simp[k0,k1,k2,k4,k5,k6]) (by intro q hq;simp only[Ac,Ab]at hq;have:q=0\/q=1\/q=2\/q=3\/q=4\/q=5:=om;rcases this with rfl|rfl|rfl|rfl|rfl|rfl<;>simp[k0,k1,k2,k4,k5]) leaf (by intro i hi;simp at hi;rcases hi with rfl|rfl<;>exact⟨_,_,_,by assumption⟩) (by intro i hi;simp at hi;rcases hi with rfl|rfl|rfl|rfl|rfl|rfl<;>exact⟨_,by assumption,by simp⟩) (by simp<;>omega) (by intro i hi;simp at hi;omega) (by simp only[aF,Ac,Ab];omega);generalize hord:[0,1,2,4,5,6]++([7]++(List.range' 8 d.length++[3]))=ord at hr;have hA:ord=([0,1,2,4,5,6]++[7])++(List.range' 8 d.length++[3]):=by rw[<-hord,Ao]
  have pk:∀i j,ord[j]? =some i->aH ord i=some j:=fun i j h1=>dP (by rw[<-hr];exact bT aF h _ [] sm) h1;have p0:=pk (0) 0 (by rw[<-hord];rfl);have p1:=pk (1) 1 (by rw[<-hord];rfl);have p2:=pk (2) 2 (by rw[<-hord];rfl);have p4:=pk (4) 3 (by rw[<-hord];rfl);have p5:=pk (5) 4 (by rw[<-hord];rfl);have p6:=pk (6) 5 (by rw[<-hord];rfl);have p7:=pk (7) 6 (by rw[<-hord];rfl);have pr:=jC (C:=7) pk hA rfl;have p3:=SZ (C:=7) pk hA rfl 0 (i:=3) (j:=d.length+7) rfl om;obtain⟨K,hK⟩:∃K:H,O.box [.d y1,.d y2]::.box [.d x0,.sl 3 0 0 0,.sl 4 0 0 0]::.box [.d x1,.sl 5 1 0 k,.sl 6 1 0 z]::.arr [] 0 0::.arr [] 0 0::.vec (aB 7 d++[.sl (d.length+7) 0 0 r.length]) 1 1::.arr cs 1 1::(aI d++[.arr (ints r) 1 0])=K:=⟨_,rfl⟩
  have hni:∀f,aE f (aG 0)=aG 0:=fun _=>rfl
  have hpk:pack h ord=K:=by
   have hrf:aE (aH ord) (aB 8 d)=aB 7 d:=fC (c:=0) pr;rw[kR hA gr,<-hK];simp only[As,Am,Af,Al,Aa,g0,g1,g2,g4,g5,g6,g7,g3,Bd,mapO,aE,mapA,dB,hrf,p4,p5,p6,p7,p3]
  have hKD:K.drop 7=aI d++[.arr (ints r) 1 0]:=by rw[<-hK];rfl
  have hgr:=nT hKD;have hge0:a6 K (d.length+7)=some 0:=by simp only[a6,xL 7 0 hKD rfl (j:=d.length+7) om]
  have hcm:cM 0 K=.box [.d y1,.d y2]::.box [.d x0,.sl 3 0 0 0,.sl 4 0 0 0]::.box [.d x1,.sl 5 0 0 k,.sl 6 0 0 z]::.arr [] 0 0::.arr [] 0 0::.vec (aB 7 d++[.sl (d.length+7) 0 0 r.length]) 1 0::.arr cs 1 0::(aI d++[.arr (ints r) 1 0]):=by
   have hrf:aQ 0 K (aB 7 d)=aB 7 d:=fR hgr;have hnc:∀h:H,aQ 0 h (aG 0)=aG 0:=fun _=>rfl;have q3:a6 K 3=some 0:=by rw[<-hK];rfl
   have q4:a6 K 4=some 0:=by rw[<-hK];rfl
   have q5:a6 K 5=some 1:=by rw[<-hK];rfl
   have q6:a6 K 6=some 1:=by rw[<-hK];rfl
   unfold cM;rw[fV]
   conv=>lhs;arg 2;rw[<-hK]
   simp only[Af,Dp,Al,cB,aQ,bJ,gS,eK,hrf,gM,q3,q4,q5,q6,hge0,Bz,if_false,if_true]
  subst hK;rw[S0 hh hids,O8 (ord:=ord) (by rw[hids];exact hr),hpk,hcm]
  have hmp:aE (aH ord) (tidy m s)=tidy m s:=by
   apply fT;rw[hids];intro i hi;simp only[Au,Bv,or_false]at hi
   rcases hi with rfl|rfl|rfl
   ·exact p0
   ·exact p1
   ·exact p2
  rw[hmp]
 ·rfl
theorem aRZ{m:List Bool}{s:List A}{y1 y2 x0 x1:D}{k z:Nat}{cs:List D}{d:List (List Int)}(hl:d.length<=4294967296):gc 1 m s (.box [.d y1,.d y2]::.box [.d x0,.sl 3 0 0 0,.sl 4 0 0 0]::.box [.d x1,.sl 5 0 0 k,.sl 6 0 0 z]::.arr [] 0 0::.arr [] 0 0::.vec (aB 7 d++aG 0) 1 0::.arr cs 1 0::aI d)=match box (tidy m s)with
  |.mk s1=>if idsL s1=[0,1,2]then(aQ 0 (.box [.d y1,.d y2]::.box [.d x0,.sl 3 0 0 0,.sl 4 0 0 0]::.box [.d x1,.sl 5 0 0 k,.sl 6 0 0 z]::.arr [] 0 0::.arr [] 0 0::.vec (aB 7 d++aG 0) 1 0::.arr cs 1 0::aI d) (s1),.box [.d y1,.d y2]::.box [.d x0,.sl 3 0 0 0,.sl 4 0 0 0]::.box [.d x1,.sl 5 0 0 k,.sl 6 0 0 z]::.arr [] 0 0::.arr [] 0 0::.vec (aB 7 d++aG 0) 1 0::.arr cs 1 0::aI d)else gcO 1 m s (.box [.d y1,.d y2]::.box [.d x0,.sl 3 0 0 0,.sl 4 0 0 0]::.box [.d x1,.sl 5 0 0 k,.sl 6 0 0 z]::.arr [] 0 0::.arr [] 0 0::.vec (aB 7 d++aG 0) 1 0::.arr cs 1 0::aI d)
  |.no=>([],[]):=by
 simp only[box]
 split
 ·rename_i hc
  have hb:=hc;have hids:idsL (tidy m s)=[0,1,2]:=by exact hb
  obtain⟨h,hh⟩:∃h:H,O.box [.d y1,.d y2]::.box [.d x0,.sl 3 0 0 0,.sl 4 0 0 0]::.box [.d x1,.sl 5 0 0 k,.sl 6 0 0 z]::.arr [] 0 0::.arr [] 0 0::.vec (aB 7 d++aG 0) 1 0::.arr cs 1 0::aI d=h:=⟨_,rfl⟩
  conv=>lhs;rw[hh]
  have g0:h[0]? =some (.box [.d y1,.d y2]):=by rw[<-hh];rfl
  have g1:h[1]? =some (.box [.d x0,.sl 3 0 0 0,.sl 4 0 0 0]):=by rw[<-hh];rfl
  have g2:h[2]? =some (.box [.d x1,.sl 5 0 0 k,.sl 6 0 0 z]):=by rw[<-hh];rfl
  have g3:h[3]? =some (.arr [] 0 0):=by rw[<-hh];rfl
  have g4:h[4]? =some (.arr [] 0 0):=by rw[<-hh];rfl
  have g5:h[5]? =some (.vec (aB 7 d++aG 0) 1 0):=by rw[<-hh];rfl
  have g6:h[6]? =some (.arr cs 1 0):=by rw[<-hh];rfl
  have hD:h.drop 7=aI d++[]:=by rw[<-hh];exact(Ah _).symm
  have gr:=iF 7 hD;have k0:kids h (0)=[]:=by simp[kids,g0,idsL,idsA]
  have k1:kids h (1)=[3,4]:=by simp[kids,g1,idsL,idsA]
  have k2:kids h (2)=[5,6]:=by simp[kids,g2,idsL,idsA]
  have k3:kids h (3)=[]:=bL g3;have k4:kids h (4)=[]:=bL g4;have k5:kids h (5)=List.range' 7 d.length:=by simp[kids,g5,bM,bY,dO]
  have leaf:=i8 gr;have hr:aD aF h [0,1,2] []=[0,1,2,3,4,5]++([6]++(List.range' 7 d.length++[])):=gH (by simp[k0,k1,k2,k3,k4,k5]) (by intro q hq;simp only[Ac,Ab]at hq;have:q=0\/q=1\/q=2\/q=3\/q=4\/q=5:=om;rcases this with rfl|rfl|rfl|rfl|rfl|rfl<;>simp[k0,k1,k2,k3,k4]) leaf (by intro i hi;simp at hi;subst hi;exact⟨_,_,_,by assumption⟩) (by intro i hi;simp at hi;rcases hi with rfl|rfl|rfl|rfl|rfl|rfl<;>exact⟨_,by assumption,by simp⟩) (by simp<;>omega) (by intro i hi;simp at hi;omega) (by simp only[aF,Ac,Ab];omega);generalize hord:[0,1,2,3,4,5]++([6]++(List.range' 7 d.length++[]))=ord at hr;have hA:ord=([0,1,2,3,4,5]++[6])++(List.range' 7 d.length++[]):=by rw[<-hord,Ao]
  have pk:∀i j,ord[j]? =some i->aH ord i=some j:=fun i j h1=>dP (by rw[<-hr];exact bT aF h _ [] sm) h1;have p0:=pk (0) 0 (by rw[<-hord];rfl);have p1:=pk (1) 1 (by rw[<-hord];rfl);have p2:=pk (2) 2 (by rw[<-hord];rfl);have p3:=pk (3) 3 (by rw[<-hord];rfl);have p4:=pk (4) 4 (by rw[<-hord];rfl);have p5:=pk (5) 5 (by rw[<-hord];rfl);have p6:=pk (6) 6 (by rw[<-hord];rfl);have pr:=jC (C:=7) pk hA rfl;obtain⟨K,hK⟩:∃K:H,O.box [.d y1,.d y2]::.box [.d x0,.sl 3 0 0 0,.sl 4 0 0 0]::.box [.d x1,.sl 5 0 0 k,.sl 6 0 0 z]::.arr [] 0 0::.arr [] 0 0::.vec (aB 7 d++aG 0) 1 0::.arr cs 1 0::aI d=K:=⟨_,rfl⟩
  have hni:∀f,aE f (aG 0)=aG 0:=fun _=>rfl
  have hpk:pack h ord=K:=by
   have hrf:aE (aH ord) (aB 7 d)=aB 7 d:=fC (c:=0) pr;rw[kR hA gr,<-hK];simp only[As,Am,Af,Al,Aa,g0,g1,g2,g3,g4,g5,g6,Bd,mapO,aE,mapA,dB,hrf,hni,p3,p4,p5,p6,Ah]
  have hKD:K.drop 7=aI d++[]:=by rw[<-hK];exact(Ah _).symm
  have hgr:=nT hKD
  have hcm:cM 0 K=.box [.d y1,.d y2]::.box [.d x0,.sl 3 0 0 0,.sl 4 0 0 0]::.box [.d x1,.sl 5 0 0 k,.sl 6 0 0 z]::.arr [] 0 0::.arr [] 0 0::.vec (aB 7 d++aG 0) 1 0::.arr cs 1 0::aI d:=by
   have hrf:aQ 0 K (aB 7 d)=aB 7 d:=fR hgr;have hnc:∀h:H,aQ 0 h (aG 0)=aG 0:=fun _=>rfl;have q3:a6 K 3=some 0:=by rw[<-hK];rfl
   have q4:a6 K 4=some 0:=by rw[<-hK];rfl
   have q5:a6 K 5=some 0:=by rw[<-hK];rfl
   have q6:a6 K 6=some 0:=by rw[<-hK];rfl
   unfold cM;rw[fV]
   conv=>lhs;arg 2;rw[<-hK]
   simp only[Af,cB,aQ,bJ,gS,eK,hrf,hnc,gM,q3,q4,q5,q6,Bz,if_false,if_true]
  subst hK;rw[S0 hh hids,O8 (ord:=ord) (by rw[hids];exact hr),hpk,hcm]
  have hmp:aE (aH ord) (tidy m s)=tidy m s:=by
   apply fT;rw[hids];intro i hi;simp only[Au,Bv,or_false]at hi
   rcases hi with rfl|rfl|rfl
   ·exact p0
   ·exact p1
   ·exact p2
  rw[hmp]
 ·rfl
theorem aRN{m:List Bool}{s:List A}{y1 y2 x0 x1:D}{k z g:Nat}{cr cs:List D}{d:List (List Int)}{p:H}(hl:d.length<=4294967296):gc 1 m s (.box [.d y1,.d y2]::.box [.d x0,.sl 4 0 0 0,.sl 5 0 0 0]::.box [.d x1,.sl 6 0 0 k,.sl 7 0 0 z]::.arr cr 1 g::.arr [] 0 0::.arr [] 0 0::.vec (aB 8 d++aG 0) 1 0::.arr cs 1 0::(aI d++p))=match box (tidy m s)with
  |.mk s1=>if idsL s1=[0,1,2,3]then(aQ 0 (.box [.d y1,.d y2]::.box [.d x0,.sl 4 0 0 0,.sl 5 0 0 0]::.box [.d x1,.sl 6 0 0 k,.sl 7 0 0 z]::.arr cr 1 g::.arr [] 0 0::.arr [] 0 0::.vec (aB 8 d++aG 0) 1 0::.arr cs 1 0::aI d) (s1),.box [.d y1,.d y2]::.box [.d x0,.sl 4 0 0 0,.sl 5 0 0 0]::.box [.d x1,.sl 6 0 0 k,.sl 7 0 0 z]::.arr cr 1 0::.arr [] 0 0::.arr [] 0 0::.vec (aB 8 d++aG 0) 1 0::.arr cs 1 0::aI d)else gcO 1 m s (.box [.d y1,.d y2]::.box [.d x0,.sl 4 0 0 0,.sl 5 0 0 0]::.box [.d x1,.sl 6 0 0 k,.sl 7 0 0 z]::.arr cr 1 g::.arr [] 0 0::.arr [] 0 0::.vec (aB 8 d++aG 0) 1 0::.arr cs 1 0::(aI d++p))
  |.no=>([],[]):=by
 simp only[box]
 split
 ·rename_i hc
  have hb:=hc;have hids:idsL (tidy m s)=[0,1,2,3]:=by exact hb
  obtain⟨h,hh⟩:∃h:H,O.box [.d y1,.d y2]::.box [.d x0,.sl 4 0 0 0,.sl 5 0 0 0]::.box [.d x1,.sl 6 0 0 k,.sl 7 0 0 z]::.arr cr 1 g::.arr [] 0 0::.arr [] 0 0::.vec (aB 8 d++aG 0) 1 0::.arr cs 1 0::(aI d++p)=h:=⟨_,rfl⟩
  conv=>lhs;rw[hh]
  have g0:h[0]? =some (.box [.d y1,.d y2]):=by rw[<-hh];rfl
  have g1:h[1]? =some (.box [.d x0,.sl 4 0 0 0,.sl 5 0 0 0]):=by rw[<-hh];rfl
  have g2:h[2]? =some (.box [.d x1,.sl 6 0 0 k,.sl 7 0 0 z]):=by rw[<-hh];rfl
  have g3:h[3]? =some (.arr cr 1 g):=by rw[<-hh];rfl
  have g4:h[4]? =some (.arr [] 0 0):=by rw[<-hh];rfl
  have g5:h[5]? =some (.arr [] 0 0):=by rw[<-hh];rfl
  have g6:h[6]? =some (.vec (aB 8 d++aG 0) 1 0):=by rw[<-hh];rfl
  have g7:h[7]? =some (.arr cs 1 0):=by rw[<-hh];rfl
  have hD:h.drop 8=aI d++p:=by rw[<-hh];rfl
  have gr:=iF 8 hD;have k0:kids h (0)=[]:=by simp[kids,g0,idsL,idsA]
  have k1:kids h (1)=[4,5]:=by simp[kids,g1,idsL,idsA]
  have k2:kids h (2)=[6,7]:=by simp[kids,g2,idsL,idsA]
  have k3:kids h (3)=[]:=bL g3;have k4:kids h (4)=[]:=bL g4;have k5:kids h (5)=[]:=bL g5;have k6:kids h (6)=List.range' 8 d.length:=by simp[kids,g6,bM,bY,dO]
  have leaf:=i8 gr;have hr:aD aF h [0,1,2,3] []=[0,1,2,3,4,5,6]++([7]++(List.range' 8 d.length++[])):=gH (by simp[k0,k1,k2,k3,k4,k5,k6]) (by intro q hq;simp only[Ac,Ab]at hq;have:q=0\/q=1\/q=2\/q=3\/q=4\/q=5\/q=6:=om;rcases this with rfl|rfl|rfl|rfl|rfl|rfl|rfl<;>simp[k0,k1,k2,k3,k4,k5]) leaf (by intro i hi;simp at hi;subst hi;exact⟨_,_,_,by assumption⟩) (by intro i hi;simp at hi;rcases hi with rfl|rfl|rfl|rfl|rfl|rfl|rfl<;>exact⟨_,by assumption,by simp⟩) (by simp<;>omega) (by intro i hi;simp at hi;omega) (by simp only[aF,Ac,Ab];omega);generalize hord:[0,1,2,3,4,5,6]++([7]++(List.range' 8 d.length++[]))=ord at hr;have hA:ord=([0,1,2,3,4,5,6]++[7])++(List.range' 8 d.length++[]):=by rw[<-hord,Ao]
  have pk:∀i j,ord[j]? =some i->aH ord i=some j:=fun i j h1=>dP (by rw[<-hr];exact bT aF h _ [] sm) h1;have p0:=pk (0) 0 (by rw[<-hord];rfl);have p1:=pk (1) 1 (by rw[<-hord];rfl);have p2:=pk (2) 2 (by rw[<-hord];rfl);have p3:=pk (3) 3 (by rw[<-hord];rfl);have p4:=pk (4) 4 (by rw[<-hord];rfl);have p5:=pk (5) 5 (by rw[<-hord];rfl);have p6:=pk (6) 6 (by rw[<-hord];rfl);have p7:=pk (7) 7 (by rw[<-hord];rfl);have pr:=jC (C:=8) pk hA rfl;obtain⟨K,hK⟩:∃K:H,O.box [.d y1,.d y2]::.box [.d x0,.sl 4 0 0 0,.sl 5 0 0 0]::.box [.d x1,.sl 6 0 0 k,.sl 7 0 0 z]::.arr cr 1 g::.arr [] 0 0::.arr [] 0 0::.vec (aB 8 d++aG 0) 1 0::.arr cs 1 0::aI d=K:=⟨_,rfl⟩
  have hni:∀f,aE f (aG 0)=aG 0:=fun _=>rfl
  have hpk:pack h ord=K:=by
   have hrf:aE (aH ord) (aB 8 d)=aB 8 d:=fC (c:=0) pr;rw[kR hA gr,<-hK];simp only[As,Am,Af,Al,Aa,g0,g1,g2,g3,g4,g5,g6,g7,Bd,mapO,aE,mapA,dB,hrf,hni,p4,p5,p6,p7,Ah]
  have hKD:K.drop 8=aI d++[]:=by rw[<-hK];exact(Ah _).symm
  have hgr:=nT hKD
  have hcm:cM 0 K=.box [.d y1,.d y2]::.box [.d x0,.sl 4 0 0 0,.sl 5 0 0 0]::.box [.d x1,.sl 6 0 0 k,.sl 7 0 0 z]::.arr cr 1 0::.arr [] 0 0::.arr [] 0 0::.vec (aB 8 d++aG 0) 1 0::.arr cs 1 0::aI d:=by
   have hrf:aQ 0 K (aB 8 d)=aB 8 d:=fR hgr;have hnc:∀h:H,aQ 0 h (aG 0)=aG 0:=fun _=>rfl;have q3:a6 K 3=some g:=by rw[<-hK];rfl
   have q4:a6 K 4=some 0:=by rw[<-hK];rfl
   have q5:a6 K 5=some 0:=by rw[<-hK];rfl
   have q6:a6 K 6=some 0:=by rw[<-hK];rfl
   have q7:a6 K 7=some 0:=by rw[<-hK];rfl
   unfold cM;rw[fV]
   conv=>lhs;arg 2;rw[<-hK]
   simp only[Af,cB,aQ,bJ,gS,eK,hrf,hnc,gM,q4,q5,q6,q7,Bz,if_false,if_true]
  subst hK;rw[S0 hh hids,O8 (ord:=ord) (by rw[hids];exact hr),hpk,hcm]
  have hmp:aE (aH ord) (tidy m s)=tidy m s:=by
   apply fT;rw[hids];intro i hi;simp only[Au,Bv,or_false]at hi
   rcases hi with rfl|rfl|rfl|rfl
   ·exact p0
   ·exact p1
   ·exact p2
   ·exact p3
  rw[hmp]
 ·rfl
theorem aPr{m:List Bool}{s:List A}{y1 y2 x0 x1:D}{k z g:Nat}{cr cs:List D}{d:List (List Int)}(hl:d.length<=4294967296):gc 1 m s (.box [.d y1,.d y2]::.box [.d x0,.sl 4 0 0 0,.sl 5 0 0 0]::.box [.d x1,.sl 6 0 0 k,.sl 7 0 0 z]::.arr cr 1 g::.arr [] 0 0::.arr [] 0 0::.vec (aB 8 d++aG 0) 1 0::.arr cs 1 0::aI d)=match box (tidy m s)with
  |.mk s1=>if idsL s1=[0,1,2,3]then(aQ 0 (.box [.d y1,.d y2]::.box [.d x0,.sl 4 0 0 0,.sl 5 0 0 0]::.box [.d x1,.sl 6 0 0 k,.sl 7 0 0 z]::.arr cr 1 g::.arr [] 0 0::.arr [] 0 0::.vec (aB 8 d++aG 0) 1 0::.arr cs 1 0::aI d) (s1),.box [.d y1,.d y2]::.box [.d x0,.sl 4 0 0 0,.sl 5 0 0 0]::.box [.d x1,.sl 6 0 0 k,.sl 7 0 0 z]::.arr cr 1 0::.arr [] 0 0::.arr [] 0 0::.vec (aB 8 d++aG 0) 1 0::.arr cs 1 0::aI d)else gcO 1 m s (.box [.d y1,.d y2]::.box [.d x0,.sl 4 0 0 0,.sl 5 0 0 0]::.box [.d x1,.sl 6 0 0 k,.sl 7 0 0 z]::.arr cr 1 g::.arr [] 0 0::.arr [] 0 0::.vec (aB 8 d++aG 0) 1 0::.arr cs 1 0::aI d)
  |.no=>([],[]):=by
 simp only[box]
 split
 ·rename_i hc
  have hb:=hc;have hids:idsL (tidy m s)=[0,1,2,3]:=by exact hb
  obtain⟨h,hh⟩:∃h:H,O.box [.d y1,.d y2]::.box [.d x0,.sl 4 0 0 0,.sl 5 0 0 0]::.box [.d x1,.sl 6 0 0 k,.sl 7 0 0 z]::.arr cr 1 g::.arr [] 0 0::.arr [] 0 0::.vec (aB 8 d++aG 0) 1 0::.arr cs 1 0::aI d=h:=⟨_,rfl⟩
  conv=>lhs;rw[hh]
  have g0:h[0]? =some (.box [.d y1,.d y2]):=by rw[<-hh];rfl
  have g1:h[1]? =some (.box [.d x0,.sl 4 0 0 0,.sl 5 0 0 0]):=by rw[<-hh];rfl
  have g2:h[2]? =some (.box [.d x1,.sl 6 0 0 k,.sl 7 0 0 z]):=by rw[<-hh];rfl
  have g3:h[3]? =some (.arr cr 1 g):=by rw[<-hh];rfl
  have g4:h[4]? =some (.arr [] 0 0):=by rw[<-hh];rfl
  have g5:h[5]? =some (.arr [] 0 0):=by rw[<-hh];rfl
  have g6:h[6]? =some (.vec (aB 8 d++aG 0) 1 0):=by rw[<-hh];rfl
  have g7:h[7]? =some (.arr cs 1 0):=by rw[<-hh];rfl
  have hD:h.drop 8=aI d++[]:=by rw[<-hh];exact(Ah _).symm
  have gr:=iF 8 hD;have k0:kids h (0)=[]:=by simp[kids,g0,idsL,idsA]
  have k1:kids h (1)=[4,5]:=by simp[kids,g1,idsL,idsA]
  have k2:kids h (2)=[6,7]:=by simp[kids,g2,idsL,idsA]
  have k3:kids h (3)=[]:=bL g3;have k4:kids h (4)=[]:=bL g4;have k5:kids h (5)=[]:=bL g5;have k6:kids h (6)=List.range' 8 d.length:=by simp[kids,g6,bM,bY,dO]
  have leaf:=i8 gr;have hr:aD aF h [0,1,2,3] []=[0,1,2,3,4,5,6]++([7]++(List.range' 8 d.length++[])):=gH (by simp[k0,k1,k2,k3,k4,k5,k6]) (by intro q hq;simp only[Ac,Ab]at hq;have:q=0\/q=1\/q=2\/q=3\/q=4\/q=5\/q=6:=om;rcases this with rfl|rfl|rfl|rfl|rfl|rfl|rfl<;>simp[k0,k1,k2,k3,k4,k5]) leaf (by intro i hi;simp at hi;subst hi;exact⟨_,_,_,by assumption⟩) (by intro i hi;simp at hi;rcases hi with rfl|rfl|rfl|rfl|rfl|rfl|rfl<;>exact⟨_,by assumption,by simp⟩) (by simp<;>omega) (by intro i hi;simp at hi;omega) (by simp only[aF,Ac,Ab];omega);generalize hord:[0,1,2,3,4,5,6]++([7]++(List.range' 8 d.length++[]))=ord at hr;have hA:ord=([0,1,2,3,4,5,6]++[7])++(List.range' 8 d.length++[]):=by rw[<-hord,Ao]
  have pk:∀i j,ord[j]? =some i->aH ord i=some j:=fun i j h1=>dP (by rw[<-hr];exact bT aF h _ [] sm) h1;have p0:=pk (0) 0 (by rw[<-hord];rfl);have p1:=pk (1) 1 (by rw[<-hord];rfl);have p2:=pk (2) 2 (by rw[<-hord];rfl);have p3:=pk (3) 3 (by rw[<-hord];rfl);have p4:=pk (4) 4 (by rw[<-hord];rfl);have p5:=pk (5) 5 (by rw[<-hord];rfl);have p6:=pk (6) 6 (by rw[<-hord];rfl);have p7:=pk (7) 7 (by rw[<-hord];rfl);have pr:=jC (C:=8) pk hA rfl;obtain⟨K,hK⟩:∃K:H,O.box [.d y1,.d y2]::.box [.d x0,.sl 4 0 0 0,.sl 5 0 0 0]::.box [.d x1,.sl 6 0 0 k,.sl 7 0 0 z]::.arr cr 1 g::.arr [] 0 0::.arr [] 0 0::.vec (aB 8 d++aG 0) 1 0::.arr cs 1 0::aI d=K:=⟨_,rfl⟩
  have hni:∀f,aE f (aG 0)=aG 0:=fun _=>rfl
  have hpk:pack h ord=K:=by
   have hrf:aE (aH ord) (aB 8 d)=aB 8 d:=fC (c:=0) pr;rw[kR hA gr,<-hK];simp only[As,Am,Af,Al,Aa,g0,g1,g2,g3,g4,g5,g6,g7,Bd,mapO,aE,mapA,dB,hrf,hni,p4,p5,p6,p7,Ah]
  have hKD:K.drop 8=aI d++[]:=by rw[<-hK];exact(Ah _).symm
  have hgr:=nT hKD
  have hcm:cM 0 K=.box [.d y1,.d y2]::.box [.d x0,.sl 4 0 0 0,.sl 5 0 0 0]::.box [.d x1,.sl 6 0 0 k,.sl 7 0 0 z]::.arr cr 1 0::.arr [] 0 0::.arr [] 0 0::.vec (aB 8 d++aG 0) 1 0::.arr cs 1 0::aI d:=by
   have hrf:aQ 0 K (aB 8 d)=aB 8 d:=fR hgr;have hnc:∀h:H,aQ 0 h (aG 0)=aG 0:=fun _=>rfl;have q3:a6 K 3=some g:=by rw[<-hK];rfl
   have q4:a6 K 4=some 0:=by rw[<-hK];rfl
   have q5:a6 K 5=some 0:=by rw[<-hK];rfl
   have q6:a6 K 6=some 0:=by rw[<-hK];rfl
   have q7:a6 K 7=some 0:=by rw[<-hK];rfl
   unfold cM;rw[fV]
   conv=>lhs;arg 2;rw[<-hK]
   simp only[Af,cB,aQ,bJ,gS,eK,hrf,hnc,gM,q4,q5,q6,q7,Bz,if_false,if_true]
  subst hK;rw[S0 hh hids,O8 (ord:=ord) (by rw[hids];exact hr),hpk,hcm]
  have hmp:aE (aH ord) (tidy m s)=tidy m s:=by
   apply fT;rw[hids];intro i hi;simp only[Au,Bv,or_false]at hi
   rcases hi with rfl|rfl|rfl|rfl
   ·exact p0
   ·exact p1
   ·exact p2
   ·exact p3
  rw[hmp]
 ·rfl
def LF(n:Nat)(ids:List Nat):Bool:=decide (ids=[0,1,2,n+7])
theorem aJi{n:Nat}{ke0:Nat}(he0:ke0=n+7):LF n [0,1,2,ke0]=true:=by subst he0;simp[LF]
def jM(n i:Nat):Option Nat:=if i=0 then some 0 else if i=1 then some 1 else if i=2 then some 2 else if i=n+7 then some 3 else none
theorem UA{n:Nat}:jM n 0=some (0):=by unfold jM;repeat (first|rfl|rw[if_pos rfl]|rw[if_neg om])
theorem UH{n:Nat}:jM n 1=some (1):=by unfold jM;repeat (first|rfl|rw[if_pos rfl]|rw[if_neg om])
theorem V4{n:Nat}:jM n 2=some (2):=by unfold jM;repeat (first|rfl|rw[if_pos rfl]|rw[if_neg om])
theorem Q1{n k:Nat}(h:k=n+7):jM n k=some (3):=by subst h;unfold jM;repeat (first|rfl|rw[if_pos rfl]|rw[if_neg om])
theorem aRF{m:List Bool}{s:List A}{y1 y2 x0 x1:D}{k z:Nat}{cs:List D}{d:List (List Int)}{p:H}(hl:d.length<=4294967296):gc 1 m s (.box [.d y1,.d y2]::.box [.d x0,.sl 3 0 0 0,.sl 4 0 0 0]::.box [.d x1,.sl 5 0 0 k,.sl 6 0 0 z]::.arr [] 0 0::.arr [] 0 0::.vec (aB 7 d++aG 0) 1 0::.arr cs 1 0::(aI d++.arr [] 1 0::p))=match box (tidy m s)with
  |.mk s1=>if LF d.length (idsL s1)=true then(aQ 0 (.box [.d y1,.d y2]::.box [.d x0,.sl 4 0 0 0,.sl 5 0 0 0]::.box [.d x1,.sl 6 0 0 k,.sl 7 0 0 z]::.arr [] 1 0::.arr [] 0 0::.arr [] 0 0::.vec (aB 8 d++aG 0) 1 0::.arr cs 1 0::aI d) (aE (jM d.length) s1),.box [.d y1,.d y2]::.box [.d x0,.sl 4 0 0 0,.sl 5 0 0 0]::.box [.d x1,.sl 6 0 0 k,.sl 7 0 0 z]::.arr [] 1 0::.arr [] 0 0::.arr [] 0 0::.vec (aB 8 d++aG 0) 1 0::.arr cs 1 0::aI d)else gcO 1 m s (.box [.d y1,.d y2]::.box [.d x0,.sl 3 0 0 0,.sl 4 0 0 0]::.box [.d x1,.sl 5 0 0 k,.sl 6 0 0 z]::.arr [] 0 0::.arr [] 0 0::.vec (aB 7 d++aG 0) 1 0::.arr cs 1 0::(aI d++.arr [] 1 0::p))
  |.no=>([],[]):=by
 simp only[box]
 split
 ·rename_i hc
  have hb:=hc;have hids:idsL (tidy m s)=[0,1,2,d.length+7]:=by simpa [LF]using hb
  obtain⟨h,hh⟩:∃h:H,O.box [.d y1,.d y2]::.box [.d x0,.sl 3 0 0 0,.sl 4 0 0 0]::.box [.d x1,.sl 5 0 0 k,.sl 6 0 0 z]::.arr [] 0 0::.arr [] 0 0::.vec (aB 7 d++aG 0) 1 0::.arr cs 1 0::(aI d++.arr [] 1 0::p)=h:=⟨_,rfl⟩
  conv=>lhs;rw[hh]
  have g0:h[0]? =some (.box [.d y1,.d y2]):=by rw[<-hh];rfl
  have g1:h[1]? =some (.box [.d x0,.sl 3 0 0 0,.sl 4 0 0 0]):=by rw[<-hh];rfl
  have g2:h[2]? =some (.box [.d x1,.sl 5 0 0 k,.sl 6 0 0 z]):=by rw[<-hh];rfl
  have g3:h[3]? =some (.arr [] 0 0):=by rw[<-hh];rfl
  have g4:h[4]? =some (.arr [] 0 0):=by rw[<-hh];rfl
  have g5:h[5]? =some (.vec (aB 7 d++aG 0) 1 0):=by rw[<-hh];rfl
  have g6:h[6]? =some (.arr cs 1 0):=by rw[<-hh];rfl
  have hD:h.drop 7=aI d++(.arr [] 1 0::p):=by rw[<-hh];rfl
  have gr:=iF 7 hD;have ge0:h[d.length+7]? =some (.arr [] 1 0):=xL 7 0 hD rfl om;have k0:kids h (0)=[]:=by simp[kids,g0,idsL,idsA]
  have k1:kids h (1)=[3,4]:=by simp[kids,g1,idsL,idsA]
  have k2:kids h (2)=[5,6]:=by simp[kids,g2,idsL,idsA]
  have ke0:kids h (d.length+7)=[]:=bL ge0;have k3:kids h (3)=[]:=bL g3;have k4:kids h (4)=[]:=bL g4;have k5:kids h (5)=List.range' 7 d.length:=by simp[kids,g5,bM,bY,dO]
  have leaf:=i8 gr;have hr:aD aF h [0,1,2,d.length+7] []=[0,1,2,d.length+7,3,4,5]++([6]++(List.range' 7 d.length++[])):=gH (by simp[k0,k1,k2,ke0,k3,k4,k5]) (by intro q hq;simp only[Ac,Ab]at hq;have:q=0\/q=1\/q=2\/q=3\/q=4\/q=5\/q=6:=om;rcases this with rfl|rfl|rfl|rfl|rfl|rfl|rfl<;>simp[k0,k1,k2,ke0,k3,k4]) leaf (by intro i hi;simp at hi;subst hi;exact⟨_,_,_,by assumption⟩) (by intro i hi;simp at hi;rcases hi with rfl|rfl|rfl|rfl|rfl|rfl|rfl<;>exact⟨_,by assumption,by simp⟩) (by simp<;>omega) (by intro i hi;simp at hi;omega) (by simp only[aF,Ac,Ab];omega);generalize hord:[0,1,2,d.length+7,3,4,5]++([6]++(List.range' 7 d.length++[]))=ord at hr;have hA:ord=([0,1,2,d.length+7,3,4,5]++[6])++(List.range' 7 d.length++[]):=by rw[<-hord,Ao]
  have pk:∀i j,ord[j]? =some i->aH ord i=some j:=fun i j h1=>dP (by rw[<-hr];exact bT aF h _ [] sm) h1;have p0:=pk (0) 0 (by rw[<-hord];rfl);have p1:=pk (1) 1 (by rw[<-hord];rfl);have p2:=pk (2) 2 (by rw[<-hord];rfl);have pe0:=pk (d.length+7) 3 (by rw[<-hord];rfl);have p3:=pk (3) 4 (by rw[<-hord];rfl);have p4:=pk (4) 5 (by rw[<-hord];rfl);have p5:=pk (5) 6 (by rw[<-hord];rfl);have p6:=pk (6) 7 (by rw[<-hord];rfl);have pr:=jC (C:=8) pk hA rfl;obtain⟨K,hK⟩:∃K:H,O.box [.d y1,.d y2]::.box [.d x0,.sl 4 0 0 0,.sl 5 0 0 0]::.box [.d x1,.sl 6 0 0 k,.sl 7 0 0 z]::.arr [] 1 0::.arr [] 0 0::.arr [] 0 0::.vec (aB 8 d++aG 0) 1 0::.arr cs 1 0::aI d=K:=⟨_,rfl⟩
  have hni:∀f,aE f (aG 0)=aG 0:=fun _=>rfl
  have hpk:pack h ord=K:=by
   have hrf:aE (aH ord) (aB 7 d)=aB 8 d:=fC (c:=0) pr;rw[kR hA gr,<-hK];simp only[As,Am,Af,Al,Aa,g0,g1,g2,ge0,g3,g4,g5,g6,Bd,mapO,aE,mapA,dB,hrf,hni,p3,p4,p5,p6,Ah]
  have hKD:K.drop 8=aI d++[]:=by rw[<-hK];exact(Ah _).symm
  have hgr:=nT hKD
  have hcm:cM 0 K=.box [.d y1,.d y2]::.box [.d x0,.sl 4 0 0 0,.sl 5 0 0 0]::.box [.d x1,.sl 6 0 0 k,.sl 7 0 0 z]::.arr [] 1 0::.arr [] 0 0::.arr [] 0 0::.vec (aB 8 d++aG 0) 1 0::.arr cs 1 0::aI d:=by
   have hrf:aQ 0 K (aB 8 d)=aB 8 d:=fR hgr;have hnc:∀h:H,aQ 0 h (aG 0)=aG 0:=fun _=>rfl;have q3:a6 K 3=some 0:=by rw[<-hK];rfl
   have q4:a6 K 4=some 0:=by rw[<-hK];rfl
   have q5:a6 K 5=some 0:=by rw[<-hK];rfl
   have q6:a6 K 6=some 0:=by rw[<-hK];rfl
   have q7:a6 K 7=some 0:=by rw[<-hK];rfl
   unfold cM;rw[fV]
   conv=>lhs;arg 2;rw[<-hK]
   simp only[Af,cB,aQ,bJ,gS,eK,hrf,hnc,gM,q4,q5,q6,q7,Bz,if_false,if_true]
  subst hK;rw[S0 hh hids,O8 (ord:=ord) (by rw[hids];exact hr),hpk,hcm]
  have hmp:aE (aH ord) (tidy m s)=aE (jM d.length) (tidy m s):=by
   apply kQ;rw[hids];intro i hi;simp only[Au,Bv,or_false]at hi
   rcases hi with rfl|rfl|rfl|rfl
   ·rw[p0,UA]
   ·rw[p1,UH]
   ·rw[p2,V4]
   ·rw[pe0,Q1 rfl]
  rw[hmp]
 ·rfl
def xQ(n:Nat):List Nat:=[0,5,6]++(List.range' 7 n++[])
def GH(n i:Nat):Option Nat:=if i=0 then some 0 else if i=5 then some 1 else if i=6 then some 2 else none
theorem aEH{n:Nat}:GH n 5=some (1):=by unfold GH;repeat (first|rfl|rw[if_pos rfl]|rw[if_neg om])
theorem aFa{n:Nat}:GH n 6=some (2):=by unfold GH;repeat (first|rfl|rw[if_pos rfl]|rw[if_neg om])
theorem aNe{y1 y2:D}{x0 x1 o3 o4:O}{cs:List D}{d:List (List Int)}(hl:d.length<=4294967296){ids:List Nat}:dI 1 (.box [.d y1,.d y2]::x0::x1::o3::o4::.vec (aB 7 d++aG 0) 1 0::.arr cs 1 0::aI d) ids=if ids=[5,6]then xQ d.length else aQH 1 (.box [.d y1,.d y2]::x0::x1::o3::o4::.vec (aB 7 d++aG 0) 1 0::.arr cs 1 0::aI d) ids:=by
 split
 ·rename_i hc
  subst hc;rw[aHO];obtain⟨h,hh⟩:∃h:H,O.box [.d y1,.d y2]::x0::x1::o3::o4::.vec (aB 7 d++aG 0) 1 0::.arr cs 1 0::aI d=h:=⟨_,rfl⟩
  conv=>lhs;rw[hh]
  have g0:h[0]? =some (.box [.d y1,.d y2]):=by rw[<-hh];rfl
  have g5:h[5]? =some (.vec (aB 7 d++aG 0) 1 0):=by rw[<-hh];rfl
  have g6:h[6]? =some (.arr cs 1 0):=by rw[<-hh];rfl
  have hD:h.drop 7=aI d++[]:=by rw[<-hh];exact(Ah _).symm
  have gr:=iF 7 hD;have k0:kids h (0)=[]:=by simp[kids,g0,idsL,idsA]
  have k5:kids h (5)=List.range' 7 d.length:=by simp[kids,g5,bM,bY,dO]
  have leaf:=i8 gr;have hr:aD (aF+1) h [0,5,6] []=[0,5]++([6]++(List.range' 7 d.length++[])):=gH (by simp[k0,k5]) (by intro q hq;simp only[Ac,Ab]at hq;have:q=0\/q=1:=om;rcases this with rfl|rfl<;>simp[k0]) leaf (by intro i hi;simp at hi;subst hi;exact⟨_,_,_,by assumption⟩) (by intro i hi;simp at hi;rcases hi with rfl|rfl<;>exact⟨_,by assumption,by simp⟩) (by simp<;>omega) (by intro i hi;simp at hi;omega) (by simp only[aF,Ac,Ab];omega);generalize hord:[0,5]++([6]++(List.range' 7 d.length++[]))=ord at hr;rw[hr,<-hord];rfl
 ·rfl
theorem aOB{y1 y2:D}{x0 x1 o3 o4:O}{cs:List D}{d:List (List Int)}(hl:d.length<=4294967296){s:List A}:trim 1 (.box [.d y1,.d y2]::x0::x1::o3::o4::.vec (aB 7 d++aG 0) 1 0::.arr cs 1 0::aI d) (xQ d.length) s=if idsL s=[5,6]/\z0As s=true then(aE (GH d.length) s,.box [.d y1,.d y2]::.vec (aB 3 d++aG 0) 1 0::.arr cs 1 0::aI d)else aQA 1 (.box [.d y1,.d y2]::x0::x1::o3::o4::.vec (aB 7 d++aG 0) 1 0::.arr cs 1 0::aI d) (xQ d.length) s:=by
 split
 ·rename_i hc
  obtain⟨hids,hz⟩:=hc;rw[show xQ d.length=0::(xQ d.length).tail from rfl,aEb,show(0::(xQ d.length).tail)=xQ d.length from rfl];obtain⟨h,hh⟩:∃h:H,O.box [.d y1,.d y2]::x0::x1::o3::o4::.vec (aB 7 d++aG 0) 1 0::.arr cs 1 0::aI d=h:=⟨_,rfl⟩
  conv=>lhs;rw[hh]
  have g0:h[0]? =some (.box [.d y1,.d y2]):=by rw[<-hh];rfl
  have g5:h[5]? =some (.vec (aB 7 d++aG 0) 1 0):=by rw[<-hh];rfl
  have g6:h[6]? =some (.arr cs 1 0):=by rw[<-hh];rfl
  have hD:h.drop 7=aI d++[]:=by rw[<-hh];exact(Ah _).symm
  have gr:=iF 7 hD;have k0:kids h (0)=[]:=by simp[kids,g0,idsL,idsA]
  have k5:kids h (5)=List.range' 7 d.length:=by simp[kids,g5,bM,bY,dO]
  have leaf:=i8 gr;have hr:aD aF h [0,5,6] []=[0,5]++([6]++(List.range' 7 d.length++[])):=gH (by simp[k0,k5]) (by intro q hq;simp only[Ac,Ab]at hq;have:q=0\/q=1:=om;rcases this with rfl|rfl<;>simp[k0]) leaf (by intro i hi;simp at hi;subst hi;exact⟨_,_,_,by assumption⟩) (by intro i hi;simp at hi;rcases hi with rfl|rfl<;>exact⟨_,by assumption,by simp⟩) (by simp<;>omega) (by intro i hi;simp at hi;omega) (by simp only[aF,Ac,Ab];omega);generalize hord:[0,5]++([6]++(List.range' 7 d.length++[]))=ord at hr;have hA:ord=([0,5]++[6])++(List.range' 7 d.length++[]):=by rw[<-hord,Ao]
  have pk:∀i j,ord[j]? =some i->aH ord i=some j:=fun i j h1=>dP (by rw[<-hr];exact bT aF h _ [] sm) h1;have p0:=pk (0) 0 (by rw[<-hord];rfl);have p5:=pk (5) 1 (by rw[<-hord];rfl);have p6:=pk (6) 2 (by rw[<-hord];rfl);have pr:=jC (C:=3) pk hA rfl;obtain⟨K,hK⟩:∃K:H,O.box [.d y1,.d y2]::.vec (aB 3 d++aG 0) 1 0::.arr cs 1 0::aI d=K:=⟨_,rfl⟩
  have hni:∀f,aE f (aG 0)=aG 0:=fun _=>rfl
  have hpk:pack h ord=K:=by
   have hrf:aE (aH ord) (aB 7 d)=aB 3 d:=fC (c:=0) pr;rw[kR hA gr,<-hK];simp only[As,Am,Af,Al,Aa,g0,g5,g6,Bd,mapO,aE,mapA,dB,hrf,hni,Ah]
  have hKD:K.drop 3=aI d++[]:=by rw[<-hK];exact(Ah _).symm
  have hgr:=nT hKD
  have hcm:cM 0 K=.box [.d y1,.d y2]::.vec (aB 3 d++aG 0) 1 0::.arr cs 1 0::aI d:=by
   have hrf:aQ 0 K (aB 3 d)=aB 3 d:=fR hgr;have hnc:∀h:H,aQ 0 h (aG 0)=aG 0:=fun _=>rfl;have q1:a6 K 1=some 0:=by rw[<-hK];rfl
   have q2:a6 K 2=some 0:=by rw[<-hK];rfl
   unfold cM;rw[fV]
   conv=>lhs;arg 2;rw[<-hK]
   simp only[Af,cB,aQ,bJ,eK,hrf,hnc,gM,Bz,if_false]
  subst hK;have hoo:xQ d.length=ord:=by rw[<-hord];rfl
  unfold trim;rw[hoo,hpk,hcm]
  have hz2:aQ 0 (O.box [.d y1,.d y2]::.vec (aB 3 d++aG 0) 1 0::.arr cs 1 0::aI d) (aE (aH ord) s)=aE (aH ord) s:=by
   exact kI (HD (by simp[z0O,z0As,z0A,BS,xB,xG,H7])) _ (zJ _ hz)
  have hmp:aE (aH ord) s=aE (GH d.length) s:=by
   apply kQ;rw[hids];intro i hi;simp only[Au,Bv,or_false]at hi
   rcases hi with rfl|rfl
   ·rw[p5,aEH]
   ·rw[p6,aFa]
  rw[hz2,hmp]
 ·rfl
end Ev
end Go.Proofs.YtahbdkmimmnadaaGreatDoor
