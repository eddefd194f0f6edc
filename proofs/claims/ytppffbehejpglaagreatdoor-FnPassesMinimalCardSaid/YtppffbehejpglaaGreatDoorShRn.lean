/-
  Memory in which rows are laid one after the other: rounds of bV.
-/
import Derived.Test.YtppffbehejpglaaGreatDoorAutM
set_option linter.unusedSimpArgs false
set_option linter.unusedVariables false
set_option linter.unusedSectionVars false
set_option maxRecDepth 8000
set_option maxHeartbeats 4000000
namespace Go.Proofs.YtppffbehejpglaaGreatDoor
namespace Ev
section
theorem U3{m:List Bool}{s:List A}{h:H}{ord:List Nat}(hr:aF aI h (idsL (tidy m s)) []=ord):gc 0 m s h=(aV 0 (pack h ord) (aG (aJ ord) (tidy m s)),cJ 0 (pack h ord)):=by
 unfold gc trim;rw[YN];unfold aI at hr;rw[hr]
theorem fI{h:H}:∀(os:H) (i:Nat),dS 0 h i os=os.map (b5 0 h 0)
 | [],_=>rfl
 |o::os,i=>by
  simp only[dS,Aj,fI os (i+1)]
  cases o<;>simp[b5]
theorem f9{h:H}{rs:List (List Int)}:(aK rs).map (b5 0 h 0)=aK rs:=by
 simp[aK,b5]
theorem eI{nf:Nat}{h:H}:∀(xs ys:List A),aV nf h (xs++ys)=aV nf h xs++aV nf h ys
 | [],ys=>by simp[aV]
 |x::xs,ys=>by simp[aV,eI xs ys]
theorem fL{h:H}:∀ {rs:List (List Int)} {b:Nat},(∀i,i<rs.length->bC h (b+i)=some 0)->aV 0 h (aC b rs)=aC b rs
 | [],b,_=>by simp[aC,aV]
 |r::rs,b,hh=>by
  have h0:=hh 0 smp;simp only[By]at h0;simp only[aC,aV,bP,iG,Cb,if_false,h0,if_true]
  rw[fL (rs:=rs) (b:=b+1) fun i hi=>by
   rw[show b+1+i=b+(i+1) by omega];exact hh (i+1) (by simp;omega)]
theorem aUV{f:Nat->Option Nat}{h:H}{b:Nat}{rs:List (List Int)}(hh:∀(i:Nat) (r:List Int),rs[i]? =some r->h[b+i]? =some (.arr (ints r) 1 0)):(List.range' b rs.length).map (fun i=>mapO f (h.getD i default))=aK rs:=aKd hh
theorem I9{rs:List (List Int)}{p:H}{i:Nat}{r:List Int}(h:rs[i]? =some r):(aK rs++p)[i]? =some (.arr (ints r) 1 0):=by
 rw[Be (by rw[cG];exact uE h)];exact YP h
theorem IM{b k:Nat}{rs:List (List Int)}(h:k=rs.length):(aC b rs++aH 0).take k=aC b rs:=by
 have hn:aH 0=[]:=rfl;rw[hn,Ai,Ce (by rw[gA];omega)]
section
variable{x0 x1:D}{k z:Nat}{cs cr:List D}{d:List (List Int)}{p:H}
theorem bQ{h:H}{i:Nat}{r:List D}{e g:Nat}(hr:h[i]? =some (.arr r e g)):kids h i=[]:=by simp only[kids,hr]
mutual
theorem aUm{f g:Nat->Option Nat}:∀a:A,(∀i∈idsA a,f i=g i)->mapA f a=mapA g a
 |.d x,_=>by simp only[mapA]
 |.sl id gen off len,hi=>by simp only[mapA,hi id (by simp[idsA])]
 |.ptr id gen off,hi=>by simp only[mapA,hi id (by simp[idsA])]
 |.mp id,hi=>by simp only[mapA,hi id (by simp[idsA])]
 |.clo q caps,hi=>by simp only[mapA];rw[kZ caps (by simpa only[idsA]using hi)]
 |.agg cs,hi=>by simp only[mapA];rw[kZ cs (by simpa only[idsA]using hi)]
 |.tup cs,hi=>by simp only[mapA];rw[kZ cs (by simpa only[idsA]using hi)]
 |.junk,_=>by simp only[mapA]
theorem kZ{f g:Nat->Option Nat}:∀xs:List A,(∀i∈idsL xs,f i=g i)->aG f xs=aG g xs
 | [],_=>by simp only[aG]
 |a::xs,hi=>by
  simp only[idsL,Ak]at hi;simp only[aG];rw[aUm a fun i h=>hi i (.inl h),kZ xs fun i h=>hi i (.inr h)]
end
mutual
theorem aVM{f:Nat->Option Nat}:∀a:A,z0A a=true->z0A (mapA f a)=true
 |.d x,_=>by simp only[mapA,z0A]
 |.sl id gen off len,hz=>by simp only[mapA];cases f id<;>first|rfl|exact hz
 |.ptr id gen off,hz=>by simp only[mapA];cases f id<;>first|rfl|exact hz
 |.mp id,hz=>by simp only[mapA];cases f id<;>first|rfl|exact hz
 |.clo q caps,hz=>by simp only[mapA,z0A]at hz|-;exact z7 caps hz
 |.agg cs,hz=>by simp only[mapA,z0A]at hz|-;exact z7 cs hz
 |.tup cs,hz=>by simp only[mapA,z0A]at hz|-;exact z7 cs hz
 |.junk,_=>by simp only[mapA,z0A]
theorem z7{f:Nat->Option Nat}:∀xs:List A,z0As xs=true->z0As (aG f xs)=true
 | [],_=>by simp only[aG,z0As]
 |a::xs,hz=>by
  simp only[z0As,Ar]at hz;simp only[aG,z0As,Ar];exact⟨aVM a hz.1,z7 xs hz.2⟩
end
end
theorem iL{h p:H}{d:List (List Int)}(B:Nat)(hd:h.drop B=aK d++p):∀(i:Nat) (r:List Int),d[i]? =some r->h[B+i]? =some (.arr (ints r) 1 0):=by
 intro i r hr;rw[<-List.getElem?_drop,hd];exact I9 hr
theorem zF{h p:H}{d:List (List Int)}(B q:Nat)(hd:h.drop B=aK d++p){o:O}(ho:p[q]? =some o){j:Nat}(hj:j=d.length+(B+q)):h[j]? =some o:=by
 subst hj;rw[show d.length+(B+q)=B+(d.length+q) by omega,<-List.getElem?_drop,hd,Bo (by rw[cG];omega),cG,Ed];exact ho
theorem jJ{h:H}{d:List (List Int)}{B:Nat}(gr:∀(i:Nat) (r:List Int),d[i]? =some r->h[B+i]? =some (.arr (ints r) 1 0)):∀i∈List.range' B d.length,∃r:List Int,h[i]? =some (.arr (ints r) 1 0):=by
 intro i hi;rw[Cy]at hi;obtain⟨j,rfl⟩:∃j,i=B+j:=⟨i-B,by omega⟩
 exact⟨d[j]'om,gr j _ (Ad om)⟩
theorem fZ{h:H}{ids P T L:List Nat}{B n N:Nat}(hfix:P++(T++(List.range' B n++L))=ids++P.flatMap (kids h))(hprog:∀k,k<P.length->k<ids.length+((P.take k).flatMap (kids h)).length)
  (leaf:∀i∈List.range' B n,∃r:List Int,h[i]? =some (.arr (ints r) 1 0)) (hT:∀i∈T++L,∃cs e g,h[i]? =some (.arr cs e g)) (hP:∀i∈P,∃o,h[i]? =some o/\o≠.void)
  (hnd:(P++(T++L)).Nodup) (hout:∀i∈P++(T++L),i<B\/B+n<=i) (hf:P.length+T.length+n+L.length<=N):aF N h ids []=P++(T++(List.range' B n++L)):=by
 refine aRz hfix ?_ hprog ?_ ?_ ?_
 ·intro i hi
  rcases Ak.1 hi with h1|h1
  ·obtain⟨cs,e,g,h2⟩:=hT i (Ak.2 (.inl h1));exact bQ h2
  ·rcases Ak.1 h1 with h2|h2
   ·obtain⟨r,hr⟩:=leaf i h2;exact bQ hr
   ·obtain⟨cs,e,g,h3⟩:=hT i (Ak.2 (.inr h2));exact bQ h3
 ·have hp:(P++(T++(List.range' B n++L))).Perm (List.range' B n++(P++(T++L))):=by
   have e1:(T++(List.range' B n++L)).Perm (List.range' B n++(T++L)):=by
    rw[<-Ao T _ L,<-Ao _ T L];exact List.Perm.append_right L List.perm_append_comm
   refine(List.Perm.append_left P e1).trans ?_;rw[<-Ao P _ (T++L),<-Ao _ P (T++L)];exact List.Perm.append_right (T++L) List.perm_append_comm
  rw[hp.nodup_iff,Dm];refine⟨List.nodup_range',hnd,fun a ha b hb e=> ?_⟩;subst e;rw[Cy]at ha;have:=hout a hb;omega
 ·intro i hi
  rcases Ak.1 hi with h1|h1
  ·exact hP i h1
  ·rcases Ak.1 h1 with h1|h1
   ·obtain⟨cs,e,g,h2⟩:=hT i (Ak.2 (.inl h1));exact⟨_,h2,by simp⟩
   ·rcases Ak.1 h1 with h2|h2
    ·obtain⟨r,hr⟩:=leaf i h2;exact⟨_,hr,by simp⟩
    ·obtain⟨cs,e,g,h3⟩:=hT i (Ak.2 (.inr h2));exact⟨_,h3,by simp⟩
 ·simp only[Af,Ee];omega
theorem jB{ord A L:List Nat}{B C n:Nat}(pk:∀i j,ord[j]? =some i->aJ ord i=some j)(ho:ord=A++(List.range' B n++L))(hA:A.length=C):∀i,i<n->aJ ord (B+i)=some (C+i):=by
 intro i hi;refine pk _ _ ?_;rw[ho,Bo om,hA,Ed,Be (by simpa using hi),List.getElem?_range' hi];simp
theorem XX{ord A L:List Nat}{B C n:Nat}(pk:∀i j,ord[j]? =some i->aJ ord i=some j)(ho:ord=A++(List.range' B n++L))(hA:A.length=C)(q:Nat){i j:Nat}(hq:L[q]? =some i)(hj:j=n+(C+q)):aJ ord i=some j:=by
 subst hj;refine pk _ _ ?_;rw[ho,Bo om,hA,show n+(C+q)-C=n+q by omega,Bo smp,Ee,Ed];exact hq
theorem oK{K p:H}{d:List (List Int)}{C:Nat}(hd:K.drop C=aK d++p):∀i,i<d.length->bC K (C+i)=some 0:=by
 intro i hi;have:=iL C hd i _ (Ad hi);simp only[bC,this]
theorem lI{h:H}{ord A L:List Nat}{d:List (List Int)}{B:Nat}(ho:ord=A++(List.range' B d.length++L))(gr:∀(i:Nat) (r:List Int),d[i]? =some r->h[B+i]? =some (.arr (ints r) 1 0)):pack h ord=A.map (fun i=>mapO (aJ ord) (h.getD i default))++(aK d++L.map (fun i=>mapO (aJ ord) (h.getD i default))):=by
 unfold pack
 conv=>lhs;arg 2;rw[ho]
 rw[Cm,Cm,aUV gr]
end
mutual
theorem aUl{p:H}(h0:bC p 0=none):∀a:A,bP 1 p a=bP 0 p a
 |.d x=>by simp only[bP]
 |.sl id gen off len=>by
  simp only[bP,iG,Cb,if_false]
  by_cases hi:id<1
  ·obtain rfl:id=0:=om;simp[h0]
  ·rw[if_neg hi]
 |.ptr id gen off=>by
  simp only[bP,MS,Cb,if_false]
  by_cases hi:id<1
  ·obtain rfl:id=0:=om;simp[h0]
  ·rw[if_neg hi]
 |.mp id=>by simp only[bP]
 |.clo g cs=>by simp only[bP];rw[yU h0 cs]
 |.agg cs=>by simp only[bP];rw[yU h0 cs]
 |.tup cs=>by simp only[bP];rw[yU h0 cs]
 |.junk=>by simp only[bP]
theorem yU{p:H}(h0:bC p 0=none):∀xs:List A,aV 1 p xs=aV 0 p xs
 | []=>by simp only[aV]
 |x::xs=>by simp only[aV];rw[aUl h0 x,yU h0 xs]
end
theorem aTE{p:H}(h0:bC p 0=none){i:Nat}(hi:1<=i)(o:O):b5 1 p i o=b5 0 p i o:=by
 cases o<;>simp only[b5,Cb,if_false,yU h0,if_neg (show ¬i<1 by omega)]
theorem aCI{p:H}(h0:bC p 0=none):∀(os:H) (i:Nat),1<=i->dS 1 p i os=dS 0 p i os
 | [],i,_=>rfl
 |o::os,i,hi=>by simp only[dS];rw[aTE h0 hi,aCI h0 os (i+1) om]
theorem aH5{x y:D}{t:H}{l:List Nat}{s:List A}:trim 1 (.box [.d x,.d y]::t) (0::l) s=trim 0 (.box [.d x,.d y]::t) (0::l) s:=by
 have hp:pack (.box [.d x,.d y]::t) (0::l)=.box [.d x,.d y]::l.map fun i=>mapO (aJ (0::l)) ((O.box [.d x,.d y]::t).getD i default):=by
  simp[pack,mapO,aG,mapA]
 have h0:bC (pack (.box [.d x,.d y]::t) (0::l)) 0=none:=by rw[hp];rfl
 unfold trim;rw[yU h0]
 congr 1
 unfold cJ;generalize hq:pack (.box [.d x,.d y]::t) (0::l)=p at *;obtain⟨os,hos⟩:∃os,p=.box [.d x,.d y]::os:=⟨_,hp⟩
 have key:∀w:H,w=.box [.d x,.d y]::os->dS 1 p 0 w=dS 0 p 0 w:=by
  intro w hw;subst hw;simp only[dS];rw[aCI h0 _ (0+1) (Ab _)];simp only[b5,aV,bP]
 exact key p hos
theorem aUS{x y:D}{t:H}{n:Nat}{l:List Nat}:aF (n+1) (.box [.d x,.d y]::t) (0::l) [0]=aF n (.box [.d x,.d y]::t) l [0]:=by
 simp[aF]
theorem VC{x y:D}{t:H}{n:Nat}{l:List Nat}:aF (n+1) (.box [.d x,.d y]::t) (0::l) []=aF n (.box [.d x,.d y]::t) l [0]:=by
 simp[aF,idsL,idsA]
theorem lB:∀(n:Nat) (h:H) (todo acc:List Nat),∃q,aF n h todo acc=acc++q
 |0,h,todo,acc=>⟨[],by simp[aF]⟩
 |n+1,h,[],acc=>⟨[],by simp[aF]⟩
 |n+1,h,i::todo,acc=>by
  unfold aF
  split
  ·exact lB n h todo acc
  ·split
   ·obtain⟨q,hq⟩:=lB n h (todo++idsL _) (acc++[i]);exact⟨i::q,by rw[hq];simp⟩
   ·obtain⟨q,hq⟩:=lB n h (todo++idsL _) (acc++[i]);exact⟨i::q,by rw[hq];simp⟩
   ·exact lB n h todo acc
   ·obtain⟨q,hq⟩:=lB n h todo (acc++[i]);exact⟨i::q,by rw[hq];simp⟩
   ·exact lB n h todo acc
theorem aVO{x y:D}{t:H}{l:List Nat}:dD 1 (.box [.d x,.d y]::t) (0::l)=dD 0 (.box [.d x,.d y]::t) (0::l):=by
 rw[vA,vA];have e1:eM (List.take 1 (O.box [.d x,.d y]::t))++0::l=0::l:=by simp[eM,idsL,idsA]
 have e2:eM (List.take 0 (O.box [.d x,.d y]::t))++0::l=0::l:=by simp[eM]
 have e3:List.range 1=[0]:=rfl;have e4:List.range 0=([]:List Nat):=rfl;rw[e1,e2,e3,e4,show(1099511627776:Nat)=1099511627775+1 from rfl,aUS,VC]
theorem aLx{x y:D}{t:H}{l:List Nat}:dD 1 (.box [.d x,.d y]::t) l=aF (aI+1) (.box [.d x,.d y]::t) (0::l) []:=by
 rw[vA,VC];have e1:eM (List.take 1 (O.box [.d x,.d y]::t))++l=l:=by simp[eM,idsL,idsA]
 have e3:List.range 1=[0]:=rfl;rw[e1,e3];rfl
theorem aXM{m:List Bool}{s:List A}{x y:D}{t:H}{l:List Nat}(hid:idsL (tidy m s)=0::l):gc 1 m s (.box [.d x,.d y]::t)=gc 0 m s (.box [.d x,.d y]::t):=by
 unfold gc;rw[hid,aVO];obtain⟨q,hq⟩:=lB 1099511627775 (.box [.d x,.d y]::t) l [0]
 have:dD 0 (.box [.d x,.d y]::t) (0::l)=0::q:=by
  rw[vA];have e2:eM (List.take 0 (O.box [.d x,.d y]::t))++0::l=0::l:=by simp[eM]
  have e4:List.range 0=([]:List Nat):=rfl;rw[e2,e4,show(1099511627776:Nat)=1099511627775+1 from rfl,VC,hq];rfl
 rw[this,aH5]
theorem aAi{m:List Bool}{s:List A}{x y:D}{t h:H}{l:List Nat}(hh:O.box [.d x,.d y]::t=h)(hid:idsL (tidy m s)=0::l):gc 1 m s h=gc 0 m s h:=by
 subst hh;exact aXM hid
theorem aFa{m:List Bool}{s:List A}{x y:D}{t h:H}{l ord:List Nat}(hh:O.box [.d x,.d y]::t=h)(hi:idsL (tidy m s)=l)(hr:aF (aI+1) h (0::l) []=ord):gc 1 m s h=(aV 0 (pack h ord) (aG (aJ ord) (tidy m s)),cJ 0 (pack h ord)):=by
 subst hh;unfold gc;rw[hi,aLx,hr];obtain⟨q,hq⟩:=lB aI (.box [.d x,.d y]::t) l [0]
 have e:ord=0::q:=by
  rw[<-hr,VC,hq];rfl
 rw[e,aH5];rfl
def aBr(n:Nat)(ids:List Nat):Bool:=decide (ids=[3,n+8])
theorem aQh{n:Nat}{ke2:Nat}(he2:ke2=n+8):aBr n [3,ke2]=true:=by subst he2;simp[aBr]
def JH(n i:Nat):Option Nat:=if i=0 then some 0 else if i=3 then some 1 else if i=n+8 then some 2 else none
theorem aIT{n:Nat}:JH n 3=some (1):=by unfold JH;repeat (first|rfl|rw[if_pos rfl]|rw[if_neg om])
theorem aG4{n k:Nat}(h:k=n+8):JH n k=some (2):=by subst h;unfold JH;repeat (first|rfl|rw[if_pos rfl]|rw[if_neg om])
theorem aWw{m:List Bool}{s:List A}{y1 y2 x0 x1:D}{k z:Nat}{cs:List D}{d:List (List Int)}(hl:d.length<=4294967296):gc 1 m s (.box [.d y1,.d y2]::.arr [] 0 0::.arr [] 0 0::.box [.d x0,.sl 1 0 0 0,.sl 2 0 0 0]::.vec (aC 6 d++aH 0) 1 0::.arr cs 1 0::(aK d++[.arr [] 0 0,.arr [] 0 0,.box [.d x1,.sl 4 0 0 k,.sl 5 0 0 z]]))=match box (tidy m s)with
  |.mk s1=>if aBr d.length (idsL s1)=true/\z0As s1=true then(aG (JH d.length) s1,.box [.d y1,.d y2]::.box [.d x0,.sl 3 0 0 0,.sl 4 0 0 0]::.box [.d x1,.sl 5 0 0 k,.sl 6 0 0 z]::.arr [] 0 0::.arr [] 0 0::.vec (aC 7 d++aH 0) 1 0::.arr cs 1 0::aK d)else gcO 1 m s (.box [.d y1,.d y2]::.arr [] 0 0::.arr [] 0 0::.box [.d x0,.sl 1 0 0 0,.sl 2 0 0 0]::.vec (aC 6 d++aH 0) 1 0::.arr cs 1 0::(aK d++[.arr [] 0 0,.arr [] 0 0,.box [.d x1,.sl 4 0 0 k,.sl 5 0 0 z]]))
  |.no=>([],[]):=by
 simp only[box]
 split
 ·rename_i hc
  obtain⟨hb,hz⟩:=hc;have hids:idsL (tidy m s)=[3,d.length+8]:=by simpa [aBr]using hb
  obtain⟨h,hh⟩:∃h:H,O.box [.d y1,.d y2]::.arr [] 0 0::.arr [] 0 0::.box [.d x0,.sl 1 0 0 0,.sl 2 0 0 0]::.vec (aC 6 d++aH 0) 1 0::.arr cs 1 0::(aK d++[.arr [] 0 0,.arr [] 0 0,.box [.d x1,.sl 4 0 0 k,.sl 5 0 0 z]])=h:=⟨_,rfl⟩
  conv=>lhs;rw[hh]
  have g0:h[0]? =some (.box [.d y1,.d y2]):=by rw[<-hh];rfl
  have g1:h[1]? =some (.arr [] 0 0):=by rw[<-hh];rfl
  have g2:h[2]? =some (.arr [] 0 0):=by rw[<-hh];rfl
  have g3:h[3]? =some (.box [.d x0,.sl 1 0 0 0,.sl 2 0 0 0]):=by rw[<-hh];rfl
  have g4:h[4]? =some (.vec (aC 6 d++aH 0) 1 0):=by rw[<-hh];rfl
  have g5:h[5]? =some (.arr cs 1 0):=by rw[<-hh];rfl
  have hD:h.drop 6=aK d++[.arr [] 0 0,.arr [] 0 0,.box [.d x1,.sl 4 0 0 k,.sl 5 0 0 z]]:=by rw[<-hh];rfl
  have gr:=iL 6 hD;have ge2:h[d.length+8]? =some (.box [.d x1,.sl 4 0 0 k,.sl 5 0 0 z]):=zF 6 2 hD rfl om;have k0:kids h (0)=[]:=by simp[kids,g0,idsL,idsA]
  have k3:kids h (3)=[1,2]:=by simp[kids,g3,idsL,idsA]
  have ke2:kids h (d.length+8)=[4,5]:=by simp[kids,ge2,idsL,idsA]
  have k1:kids h (1)=[]:=bQ g1;have k2:kids h (2)=[]:=bQ g2;have k4:kids h (4)=List.range' 6 d.length:=by simp[kids,g4,bN,bZ,c8]
  have leaf:=jJ gr;have hr:aF (aI+1) h [0,3,d.length+8] []=[0,3,d.length+8,1,2,4]++([5]++(List.range' 6 d.length++[])):=fZ (by simp[k0,k3,ke2,k1,k2,k4]) (by intro q hq;simp only[Ae,Ac]at hq;have:q=0\/q=1\/q=2\/q=3\/q=4\/q=5:=om;rcases this with rfl|rfl|rfl|rfl|rfl|rfl<;>simp[k0,k3,ke2,k1,k2]) leaf (by intro i hi;simp at hi;subst hi;exact⟨_,_,_,by assumption⟩) (by intro i hi;simp at hi;rcases hi with rfl|rfl|rfl|rfl|rfl|rfl<;>exact⟨_,by assumption,by simp⟩) (by simp<;>omega) (by intro i hi;simp at hi;omega) (by simp only[aI,Ae,Ac];omega);generalize hord:[0,3,d.length+8,1,2,4]++([5]++(List.range' 6 d.length++[]))=ord at hr;have hA:ord=([0,3,d.length+8,1,2,4]++[5])++(List.range' 6 d.length++[]):=by rw[<-hord,Ao]
  have pk:∀i j,ord[j]? =some i->aJ ord i=some j:=fun i j h1=>dF (by rw[<-hr];exact bW (aI+1) h _ [] smp) h1;have p0:=pk (0) 0 (by rw[<-hord];rfl);have p3:=pk (3) 1 (by rw[<-hord];rfl);have pe2:=pk (d.length+8) 2 (by rw[<-hord];rfl);have p1:=pk (1) 3 (by rw[<-hord];rfl);have p2:=pk (2) 4 (by rw[<-hord];rfl);have p4:=pk (4) 5 (by rw[<-hord];rfl);have p5:=pk (5) 6 (by rw[<-hord];rfl);have pr:=jB (C:=7) pk hA rfl;obtain⟨K,hK⟩:∃K:H,O.box [.d y1,.d y2]::.box [.d x0,.sl 3 0 0 0,.sl 4 0 0 0]::.box [.d x1,.sl 5 0 0 k,.sl 6 0 0 z]::.arr [] 0 0::.arr [] 0 0::.vec (aC 7 d++aH 0) 1 0::.arr cs 1 0::aK d=K:=⟨_,rfl⟩
  have hni:∀f,aG f (aH 0)=aH 0:=fun _=>rfl
  have hpk:pack h ord=K:=by
   have hrf:aG (aJ ord) (aC 6 d)=aC 7 d:=eL (c:=0) pr;rw[lI hA gr,<-hK];simp only[Ax,Aq,Aj,As,Aa,g0,g3,ge2,g1,g2,g4,g5,Bg,mapO,aG,mapA,cR,hrf,hni,p1,p2,p4,p5,Ai]
  have hKD:K.drop 7=aK d++[]:=by rw[<-hK];exact(Ai _).symm
  have hgr:=oK hKD
  have hcm:cJ 0 K=.box [.d y1,.d y2]::.box [.d x0,.sl 3 0 0 0,.sl 4 0 0 0]::.box [.d x1,.sl 5 0 0 k,.sl 6 0 0 z]::.arr [] 0 0::.arr [] 0 0::.vec (aC 7 d++aH 0) 1 0::.arr cs 1 0::aK d:=by
   have hrf:aV 0 K (aC 7 d)=aC 7 d:=fL hgr;have hnc:∀h:H,aV 0 h (aH 0)=aH 0:=fun _=>rfl;have q3:bC K 3=some 0:=by rw[<-hK];rfl
   have q4:bC K 4=some 0:=by rw[<-hK];rfl
   have q5:bC K 5=some 0:=by rw[<-hK];rfl
   have q6:bC K 6=some 0:=by rw[<-hK];rfl
   unfold cJ;rw[fI]
   conv=>lhs;arg 2;rw[<-hK]
   simp only[Aj,b5,aV,bP,iG,eI,hrf,hnc,f9,q3,q4,q5,q6,Cb,if_false,if_true]
  subst hK;rw[aFa hh hids hr,hpk,hcm]
  have hmp:aG (aJ ord) (tidy m s)=aG (JH d.length) (tidy m s):=by
   apply kZ;rw[hids];intro i hi;simp only[Au,Bv,or_false]at hi
   rcases hi with rfl|rfl
   ·rw[p3,aIT]
   ·rw[pe2,aG4 rfl]
  have hz2:aV 0 (O.box [.d y1,.d y2]::.box [.d x0,.sl 3 0 0 0,.sl 4 0 0 0]::.box [.d x1,.sl 5 0 0 k,.sl 6 0 0 z]::.arr [] 0 0::.arr [] 0 0::.vec (aC 7 d++aH 0) 1 0::.arr cs 1 0::aK d) (aG (aJ ord) (tidy m s))=aG (aJ ord) (tidy m s):=by
   exact kN (LL (by simp[z0O,z0As,z0A,DO,yX,yR,MW])) _ (z7 _ hz)
  rw[hz2,hmp]
 ·rfl
def C0(n i:Nat):Option Nat:=if i=0 then some 0 else if i=1 then some 1 else if i=2 then some 2 else none
theorem s5{n:Nat}:C0 n 1=some (1):=by unfold C0;repeat (first|rfl|rw[if_pos rfl]|rw[if_neg om])
theorem tX{n:Nat}:C0 n 2=some (2):=by unfold C0;repeat (first|rfl|rw[if_pos rfl]|rw[if_neg om])
theorem JF{m:List Bool}{s:List A}{y1 y2 x0 x1:D}{k z:Nat}{cs:List D}{d:List (List Int)}(hl:d.length<=4294967296):gc 1 m s (.box [.d y1,.d y2]::.box [.d x0,.sl 3 0 0 0,.sl 4 0 0 0]::.box [.d x1,.sl 5 0 0 k,.sl 6 0 0 z]::.arr [] 0 0::.arr [] 0 0::.vec (aC 7 d++aH 0) 1 0::.arr cs 1 0::aK d)=match box (tidy m s)with
  |.mk s1=>if idsL s1=[1,2]/\z0As s1=true then(aG (C0 d.length) s1,.box [.d y1,.d y2]::.box [.d x0,.sl 3 0 0 0,.sl 4 0 0 0]::.box [.d x1,.sl 5 0 0 k,.sl 6 0 0 z]::.arr [] 0 0::.arr [] 0 0::.vec (aC 7 d++aH 0) 1 0::.arr cs 1 0::aK d)else gcO 1 m s (.box [.d y1,.d y2]::.box [.d x0,.sl 3 0 0 0,.sl 4 0 0 0]::.box [.d x1,.sl 5 0 0 k,.sl 6 0 0 z]::.arr [] 0 0::.arr [] 0 0::.vec (aC 7 d++aH 0) 1 0::.arr cs 1 0::aK d)
  |.no=>([],[]):=by
 simp only[box]
 split
 ·rename_i hc
  obtain⟨hb,hz⟩:=hc;have hids:idsL (tidy m s)=[1,2]:=by exact hb
  obtain⟨h,hh⟩:∃h:H,O.box [.d y1,.d y2]::.box [.d x0,.sl 3 0 0 0,.sl 4 0 0 0]::.box [.d x1,.sl 5 0 0 k,.sl 6 0 0 z]::.arr [] 0 0::.arr [] 0 0::.vec (aC 7 d++aH 0) 1 0::.arr cs 1 0::aK d=h:=⟨_,rfl⟩
  conv=>lhs;rw[hh]
  have g0:h[0]? =some (.box [.d y1,.d y2]):=by rw[<-hh];rfl
  have g1:h[1]? =some (.box [.d x0,.sl 3 0 0 0,.sl 4 0 0 0]):=by rw[<-hh];rfl
  have g2:h[2]? =some (.box [.d x1,.sl 5 0 0 k,.sl 6 0 0 z]):=by rw[<-hh];rfl
  have g3:h[3]? =some (.arr [] 0 0):=by rw[<-hh];rfl
  have g4:h[4]? =some (.arr [] 0 0):=by rw[<-hh];rfl
  have g5:h[5]? =some (.vec (aC 7 d++aH 0) 1 0):=by rw[<-hh];rfl
  have g6:h[6]? =some (.arr cs 1 0):=by rw[<-hh];rfl
  have hD:h.drop 7=aK d++[]:=by rw[<-hh];exact(Ai _).symm
  have gr:=iL 7 hD;have k0:kids h (0)=[]:=by simp[kids,g0,idsL,idsA]
  have k1:kids h (1)=[3,4]:=by simp[kids,g1,idsL,idsA]
  have k2:kids h (2)=[5,6]:=by simp[kids,g2,idsL,idsA]
  have k3:kids h (3)=[]:=bQ g3;have k4:kids h (4)=[]:=bQ g4;have k5:kids h (5)=List.range' 7 d.length:=by simp[kids,g5,bN,bZ,c8]
  have leaf:=jJ gr;have hr:aF (aI+1) h [0,1,2] []=[0,1,2,3,4,5]++([6]++(List.range' 7 d.length++[])):=fZ (by simp[k0,k1,k2,k3,k4,k5]) (by intro q hq;simp only[Ae,Ac]at hq;have:q=0\/q=1\/q=2\/q=3\/q=4\/q=5:=om;rcases this with rfl|rfl|rfl|rfl|rfl|rfl<;>simp[k0,k1,k2,k3,k4]) leaf (by intro i hi;simp at hi;subst hi;exact⟨_,_,_,by assumption⟩) (by intro i hi;simp at hi;rcases hi with rfl|rfl|rfl|rfl|rfl|rfl<;>exact⟨_,by assumption,by simp⟩) (by simp<;>omega) (by intro i hi;simp at hi;omega) (by simp only[aI,Ae,Ac];omega);generalize hord:[0,1,2,3,4,5]++([6]++(List.range' 7 d.length++[]))=ord at hr;have hA:ord=([0,1,2,3,4,5]++[6])++(List.range' 7 d.length++[]):=by rw[<-hord,Ao]
  have pk:∀i j,ord[j]? =some i->aJ ord i=some j:=fun i j h1=>dF (by rw[<-hr];exact bW (aI+1) h _ [] smp) h1;have p0:=pk (0) 0 (by rw[<-hord];rfl);have p1:=pk (1) 1 (by rw[<-hord];rfl);have p2:=pk (2) 2 (by rw[<-hord];rfl);have p3:=pk (3) 3 (by rw[<-hord];rfl);have p4:=pk (4) 4 (by rw[<-hord];rfl);have p5:=pk (5) 5 (by rw[<-hord];rfl);have p6:=pk (6) 6 (by rw[<-hord];rfl);have pr:=jB (C:=7) pk hA rfl;obtain⟨K,hK⟩:∃K:H,O.box [.d y1,.d y2]::.box [.d x0,.sl 3 0 0 0,.sl 4 0 0 0]::.box [.d x1,.sl 5 0 0 k,.sl 6 0 0 z]::.arr [] 0 0::.arr [] 0 0::.vec (aC 7 d++aH 0) 1 0::.arr cs 1 0::aK d=K:=⟨_,rfl⟩
  have hni:∀f,aG f (aH 0)=aH 0:=fun _=>rfl
  have hpk:pack h ord=K:=by
   have hrf:aG (aJ ord) (aC 7 d)=aC 7 d:=eL (c:=0) pr;rw[lI hA gr,<-hK];simp only[Ax,Aq,Aj,As,Aa,g0,g1,g2,g3,g4,g5,g6,Bg,mapO,aG,mapA,cR,hrf,hni,p3,p4,p5,p6,Ai]
  have hKD:K.drop 7=aK d++[]:=by rw[<-hK];exact(Ai _).symm
  have hgr:=oK hKD
  have hcm:cJ 0 K=.box [.d y1,.d y2]::.box [.d x0,.sl 3 0 0 0,.sl 4 0 0 0]::.box [.d x1,.sl 5 0 0 k,.sl 6 0 0 z]::.arr [] 0 0::.arr [] 0 0::.vec (aC 7 d++aH 0) 1 0::.arr cs 1 0::aK d:=by
   have hrf:aV 0 K (aC 7 d)=aC 7 d:=fL hgr;have hnc:∀h:H,aV 0 h (aH 0)=aH 0:=fun _=>rfl;have q3:bC K 3=some 0:=by rw[<-hK];rfl
   have q4:bC K 4=some 0:=by rw[<-hK];rfl
   have q5:bC K 5=some 0:=by rw[<-hK];rfl
   have q6:bC K 6=some 0:=by rw[<-hK];rfl
   unfold cJ;rw[fI]
   conv=>lhs;arg 2;rw[<-hK]
   simp only[Aj,b5,aV,bP,iG,eI,hrf,hnc,f9,q3,q4,q5,q6,Cb,if_false,if_true]
  subst hK;rw[aFa hh hids hr,hpk,hcm]
  have hmp:aG (aJ ord) (tidy m s)=aG (C0 d.length) (tidy m s):=by
   apply kZ;rw[hids];intro i hi;simp only[Au,Bv,or_false]at hi
   rcases hi with rfl|rfl
   ·rw[p1,s5]
   ·rw[p2,tX]
  have hz2:aV 0 (O.box [.d y1,.d y2]::.box [.d x0,.sl 3 0 0 0,.sl 4 0 0 0]::.box [.d x1,.sl 5 0 0 k,.sl 6 0 0 z]::.arr [] 0 0::.arr [] 0 0::.vec (aC 7 d++aH 0) 1 0::.arr cs 1 0::aK d) (aG (aJ ord) (tidy m s))=aG (aJ ord) (tidy m s):=by
   exact kN (LL (by simp[z0O,z0As,z0A,DO,yX,yR,MW])) _ (z7 _ hz)
  rw[hz2,hmp]
 ·rfl
theorem aWi{m:List Bool}{s:List A}{y1 y2 x0 x1:D}{k z:Nat}{r:List Int}{cs:List D}{d:List (List Int)}{p:H}(hl:d.length<=4294967296):gc 1 m s (.box [.d y1,.d y2]::.box [.d x0,.sl 4 0 0 0,.sl 5 0 0 0]::.box [.d x1,.sl 6 1 0 k,.sl 7 1 0 z]::.arr (ints r) 1 0::.arr [] 0 0::.arr [] 0 0::.vec (aC 8 d++[.sl 3 0 0 r.length]) 1 1::.arr cs 1 1::(aK d++p))=match box (tidy m s)with
  |.mk s1=>if idsL s1=[0,1,2]then(aV 0 (.box [.d y1,.d y2]::.box [.d x0,.sl 3 0 0 0,.sl 4 0 0 0]::.box [.d x1,.sl 5 1 0 k,.sl 6 1 0 z]::.arr [] 0 0::.arr [] 0 0::.vec (aC 7 d++[.sl (d.length+7) 0 0 r.length]) 1 1::.arr cs 1 1::(aK d++[.arr (ints r) 1 0])) (s1),.box [.d y1,.d y2]::.box [.d x0,.sl 3 0 0 0,.sl 4 0 0 0]::.box [.d x1,.sl 5 0 0 k,.sl 6 0 0 z]::.arr [] 0 0::.arr [] 0 0::.vec (aC 7 d++[.sl (d.length+7) 0 0 r.length]) 1 0::.arr cs 1 0::(aK d++[.arr (ints r) 1 0]))else gcO 1 m s (.box [.d y1,.d y2]::.box [.d x0,.sl 4 0 0 0,.sl 5 0 0 0]::.box [.d x1,.sl 6 1 0 k,.sl 7 1 0 z]::.arr (ints r) 1 0::.arr [] 0 0::.arr [] 0 0::.vec (aC 8 d++[.sl 3 0 0 r.length]) 1 1::.arr cs 1 1::(aK d++p))
  |.no=>([],[]):=by
 simp only[box]
 split
 ·rename_i hc
  have hb:=hc;have hids:idsL (tidy m s)=[0,1,2]:=by exact hb
  obtain⟨h,hh⟩:∃h:H,O.box [.d y1,.d y2]::.box [.d x0,.sl 4 0 0 0,.sl 5 0 0 0]::.box [.d x1,.sl 6 1 0 k,.sl 7 1 0 z]::.arr (ints r) 1 0::.arr [] 0 0::.arr [] 0 0::.vec (aC 8 d++[.sl 3 0 0 r.length]) 1 1::.arr cs 1 1::(aK d++p)=h:=⟨_,rfl⟩
  conv=>lhs;rw[hh]
  have g0:h[0]? =some (.box [.d y1,.d y2]):=by rw[<-hh];rfl
  have g1:h[1]? =some (.box [.d x0,.sl 4 0 0 0,.sl 5 0 0 0]):=by rw[<-hh];rfl
  have g2:h[2]? =some (.box [.d x1,.sl 6 1 0 k,.sl 7 1 0 z]):=by rw[<-hh];rfl
  have g3:h[3]? =some (.arr (ints r) 1 0):=by rw[<-hh];rfl
  have g4:h[4]? =some (.arr [] 0 0):=by rw[<-hh];rfl
  have g5:h[5]? =some (.arr [] 0 0):=by rw[<-hh];rfl
  have g6:h[6]? =some (.vec (aC 8 d++[.sl 3 0 0 r.length]) 1 1):=by rw[<-hh];rfl
  have g7:h[7]? =some (.arr cs 1 1):=by rw[<-hh];rfl
  have hD:h.drop 8=aK d++p:=by rw[<-hh];rfl
  have gr:=iL 8 hD;have k0:kids h (0)=[]:=by simp[kids,g0,idsL,idsA]
  have k1:kids h (1)=[4,5]:=by simp[kids,g1,idsL,idsA]
  have k2:kids h (2)=[6,7]:=by simp[kids,g2,idsL,idsA]
  have k4:kids h (4)=[]:=bQ g4;have k5:kids h (5)=[]:=bQ g5;have k6:kids h (6)=List.range' 8 d.length++[3]:=by simp[kids,g6,bN,bZ,idsL,idsA]
  have leaf:=jJ gr;have hr:aF aI h [0,1,2] []=[0,1,2,4,5,6]++([7]++(List.range' 8 d.length++[3])):=fZ (by simp[k0,k1,k2,k4,k5,k6]) (by intro q hq;simp only[Ae,Ac]at hq;have:q=0\/q=1\/q=2\/q=3\/q=4\/q=5:=om;rcases this with rfl|rfl|rfl|rfl|rfl|rfl<;>simp[k0,k1,k2,k4,k5]) leaf (by intro i hi;simp at hi;rcases hi with rfl|rfl<;>exact⟨_,_,_,by assumption⟩) (by intro i hi;simp at hi;rcases hi with rfl|rfl|rfl|rfl|rfl|rfl<;>exact⟨_,by assumption,by simp⟩) (by simp<;>omega) (by intro i hi;simp at hi;omega) (by simp only[aI,Ae,Ac];omega);generalize hord:[0,1,2,4,5,6]++([7]++(List.range' 8 d.length++[3]))=ord at hr;have hA:ord=([0,1,2,4,5,6]++[7])++(List.range' 8 d.length++[3]):=by rw[<-hord,Ao]
  have pk:∀i j,ord[j]? =some i->aJ ord i=some j:=fun i j h1=>dF (by rw[<-hr];exact bW aI h _ [] smp) h1;have p0:=pk (0) 0 (by rw[<-hord];rfl);have p1:=pk (1) 1 (by rw[<-hord];rfl);have p2:=pk (2) 2 (by rw[<-hord];rfl);have p4:=pk (4) 3 (by rw[<-hord];rfl);have p5:=pk (5) 4 (by rw[<-hord];rfl);have p6:=pk (6) 5 (by rw[<-hord];rfl);have p7:=pk (7) 6 (by rw[<-hord];rfl);have pr:=jB (C:=7) pk hA rfl;have p3:=XX (C:=7) pk hA rfl 0 (i:=3) (j:=d.length+7) rfl om;obtain⟨K,hK⟩:∃K:H,O.box [.d y1,.d y2]::.box [.d x0,.sl 3 0 0 0,.sl 4 0 0 0]::.box [.d x1,.sl 5 1 0 k,.sl 6 1 0 z]::.arr [] 0 0::.arr [] 0 0::.vec (aC 7 d++[.sl (d.length+7) 0 0 r.length]) 1 1::.arr cs 1 1::(aK d++[.arr (ints r) 1 0])=K:=⟨_,rfl⟩
  have hni:∀f,aG f (aH 0)=aH 0:=fun _=>rfl
  have hpk:pack h ord=K:=by
   have hrf:aG (aJ ord) (aC 8 d)=aC 7 d:=eL (c:=0) pr;rw[lI hA gr,<-hK];simp only[Ax,Aq,Aj,As,Aa,g0,g1,g2,g4,g5,g6,g7,g3,Bg,mapO,aG,mapA,cR,hrf,p4,p5,p6,p7,p3]
  have hKD:K.drop 7=aK d++[.arr (ints r) 1 0]:=by rw[<-hK];rfl
  have hgr:=oK hKD;have hge0:bC K (d.length+7)=some 0:=by simp only[bC,zF 7 0 hKD rfl (j:=d.length+7) om]
  have hcm:cJ 0 K=.box [.d y1,.d y2]::.box [.d x0,.sl 3 0 0 0,.sl 4 0 0 0]::.box [.d x1,.sl 5 0 0 k,.sl 6 0 0 z]::.arr [] 0 0::.arr [] 0 0::.vec (aC 7 d++[.sl (d.length+7) 0 0 r.length]) 1 0::.arr cs 1 0::(aK d++[.arr (ints r) 1 0]):=by
   have hrf:aV 0 K (aC 7 d)=aC 7 d:=fL hgr;have hnc:∀h:H,aV 0 h (aH 0)=aH 0:=fun _=>rfl;have q3:bC K 3=some 0:=by rw[<-hK];rfl
   have q4:bC K 4=some 0:=by rw[<-hK];rfl
   have q5:bC K 5=some 1:=by rw[<-hK];rfl
   have q6:bC K 6=some 1:=by rw[<-hK];rfl
   unfold cJ;rw[fI]
   conv=>lhs;arg 2;rw[<-hK]
   simp only[Aj,Cm,As,b5,aV,bP,iG,eI,hrf,f9,q3,q4,q5,q6,hge0,Cb,if_false,if_true]
  subst hK;rw[aAi hh hids,U3 (ord:=ord) (by rw[hids];exact hr),hpk,hcm]
  have hmp:aG (aJ ord) (tidy m s)=tidy m s:=by
   apply fF;rw[hids];intro i hi;simp only[Au,Bv,or_false]at hi
   rcases hi with rfl|rfl|rfl
   ·exact p0
   ·exact p1
   ·exact p2
  rw[hmp]
 ·rfl
theorem aWd{m:List Bool}{s:List A}{y1 y2 x0 x1:D}{k z:Nat}{cs:List D}{d:List (List Int)}(hl:d.length<=4294967296):gc 1 m s (.box [.d y1,.d y2]::.box [.d x0,.sl 3 0 0 0,.sl 4 0 0 0]::.box [.d x1,.sl 5 0 0 k,.sl 6 0 0 z]::.arr [] 0 0::.arr [] 0 0::.vec (aC 7 d++aH 0) 1 0::.arr cs 1 0::aK d)=match box (tidy m s)with
  |.mk s1=>if idsL s1=[0,1,2]then(aV 0 (.box [.d y1,.d y2]::.box [.d x0,.sl 3 0 0 0,.sl 4 0 0 0]::.box [.d x1,.sl 5 0 0 k,.sl 6 0 0 z]::.arr [] 0 0::.arr [] 0 0::.vec (aC 7 d++aH 0) 1 0::.arr cs 1 0::aK d) (s1),.box [.d y1,.d y2]::.box [.d x0,.sl 3 0 0 0,.sl 4 0 0 0]::.box [.d x1,.sl 5 0 0 k,.sl 6 0 0 z]::.arr [] 0 0::.arr [] 0 0::.vec (aC 7 d++aH 0) 1 0::.arr cs 1 0::aK d)else gcO 1 m s (.box [.d y1,.d y2]::.box [.d x0,.sl 3 0 0 0,.sl 4 0 0 0]::.box [.d x1,.sl 5 0 0 k,.sl 6 0 0 z]::.arr [] 0 0::.arr [] 0 0::.vec (aC 7 d++aH 0) 1 0::.arr cs 1 0::aK d)
  |.no=>([],[]):=by
 simp only[box]
 split
 ·rename_i hc
  have hb:=hc;have hids:idsL (tidy m s)=[0,1,2]:=by exact hb
  obtain⟨h,hh⟩:∃h:H,O.box [.d y1,.d y2]::.box [.d x0,.sl 3 0 0 0,.sl 4 0 0 0]::.box [.d x1,.sl 5 0 0 k,.sl 6 0 0 z]::.arr [] 0 0::.arr [] 0 0::.vec (aC 7 d++aH 0) 1 0::.arr cs 1 0::aK d=h:=⟨_,rfl⟩
  conv=>lhs;rw[hh]
  have g0:h[0]? =some (.box [.d y1,.d y2]):=by rw[<-hh];rfl
  have g1:h[1]? =some (.box [.d x0,.sl 3 0 0 0,.sl 4 0 0 0]):=by rw[<-hh];rfl
  have g2:h[2]? =some (.box [.d x1,.sl 5 0 0 k,.sl 6 0 0 z]):=by rw[<-hh];rfl
  have g3:h[3]? =some (.arr [] 0 0):=by rw[<-hh];rfl
  have g4:h[4]? =some (.arr [] 0 0):=by rw[<-hh];rfl
  have g5:h[5]? =some (.vec (aC 7 d++aH 0) 1 0):=by rw[<-hh];rfl
  have g6:h[6]? =some (.arr cs 1 0):=by rw[<-hh];rfl
  have hD:h.drop 7=aK d++[]:=by rw[<-hh];exact(Ai _).symm
  have gr:=iL 7 hD;have k0:kids h (0)=[]:=by simp[kids,g0,idsL,idsA]
  have k1:kids h (1)=[3,4]:=by simp[kids,g1,idsL,idsA]
  have k2:kids h (2)=[5,6]:=by simp[kids,g2,idsL,idsA]
  have k3:kids h (3)=[]:=bQ g3;have k4:kids h (4)=[]:=bQ g4;have k5:kids h (5)=List.range' 7 d.length:=by simp[kids,g5,bN,bZ,c8]
  have leaf:=jJ gr;have hr:aF aI h [0,1,2] []=[0,1,2,3,4,5]++([6]++(List.range' 7 d.length++[])):=fZ (by simp[k0,k1,k2,k3,k4,k5]) (by intro q hq;simp only[Ae,Ac]at hq;have:q=0\/q=1\/q=2\/q=3\/q=4\/q=5:=om;rcases this with rfl|rfl|rfl|rfl|rfl|rfl<;>simp[k0,k1,k2,k3,k4]) leaf (by intro i hi;simp at hi;subst hi;exact⟨_,_,_,by assumption⟩) (by intro i hi;simp at hi;rcases hi with rfl|rfl|rfl|rfl|rfl|rfl<;>exact⟨_,by assumption,by simp⟩) (by simp<;>omega) (by intro i hi;simp at hi;omega) (by simp only[aI,Ae,Ac];omega);generalize hord:[0,1,2,3,4,5]++([6]++(List.range' 7 d.length++[]))=ord at hr;have hA:ord=([0,1,2,3,4,5]++[6])++(List.range' 7 d.length++[]):=by rw[<-hord,Ao]
  have pk:∀i j,ord[j]? =some i->aJ ord i=some j:=fun i j h1=>dF (by rw[<-hr];exact bW aI h _ [] smp) h1;have p0:=pk (0) 0 (by rw[<-hord];rfl);have p1:=pk (1) 1 (by rw[<-hord];rfl);have p2:=pk (2) 2 (by rw[<-hord];rfl);have p3:=pk (3) 3 (by rw[<-hord];rfl);have p4:=pk (4) 4 (by rw[<-hord];rfl);have p5:=pk (5) 5 (by rw[<-hord];rfl);have p6:=pk (6) 6 (by rw[<-hord];rfl);have pr:=jB (C:=7) pk hA rfl;obtain⟨K,hK⟩:∃K:H,O.box [.d y1,.d y2]::.box [.d x0,.sl 3 0 0 0,.sl 4 0 0 0]::.box [.d x1,.sl 5 0 0 k,.sl 6 0 0 z]::.arr [] 0 0::.arr [] 0 0::.vec (aC 7 d++aH 0) 1 0::.arr cs 1 0::aK d=K:=⟨_,rfl⟩
  have hni:∀f,aG f (aH 0)=aH 0:=fun _=>rfl
  have hpk:pack h ord=K:=by
   have hrf:aG (aJ ord) (aC 7 d)=aC 7 d:=eL (c:=0) pr;rw[lI hA gr,<-hK];simp only[Ax,Aq,Aj,As,Aa,g0,g1,g2,g3,g4,g5,g6,Bg,mapO,aG,mapA,cR,hrf,hni,p3,p4,p5,p6,Ai]
  have hKD:K.drop 7=aK d++[]:=by rw[<-hK];exact(Ai _).symm
  have hgr:=oK hKD
  have hcm:cJ 0 K=.box [.d y1,.d y2]::.box [.d x0,.sl 3 0 0 0,.sl 4 0 0 0]::.box [.d x1,.sl 5 0 0 k,.sl 6 0 0 z]::.arr [] 0 0::.arr [] 0 0::.vec (aC 7 d++aH 0) 1 0::.arr cs 1 0::aK d:=by
   have hrf:aV 0 K (aC 7 d)=aC 7 d:=fL hgr;have hnc:∀h:H,aV 0 h (aH 0)=aH 0:=fun _=>rfl;have q3:bC K 3=some 0:=by rw[<-hK];rfl
   have q4:bC K 4=some 0:=by rw[<-hK];rfl
   have q5:bC K 5=some 0:=by rw[<-hK];rfl
   have q6:bC K 6=some 0:=by rw[<-hK];rfl
   unfold cJ;rw[fI]
   conv=>lhs;arg 2;rw[<-hK]
   simp only[Aj,b5,aV,bP,iG,eI,hrf,hnc,f9,q3,q4,q5,q6,Cb,if_false,if_true]
  subst hK;rw[aAi hh hids,U3 (ord:=ord) (by rw[hids];exact hr),hpk,hcm]
  have hmp:aG (aJ ord) (tidy m s)=tidy m s:=by
   apply fF;rw[hids];intro i hi;simp only[Au,Bv,or_false]at hi
   rcases hi with rfl|rfl|rfl
   ·exact p0
   ·exact p1
   ·exact p2
  rw[hmp]
 ·rfl
theorem aVG{m:List Bool}{s:List A}{y1 y2 x0 x1:D}{k z g:Nat}{cr cs:List D}{d:List (List Int)}{p:H}(hl:d.length<=4294967296):gc 1 m s (.box [.d y1,.d y2]::.box [.d x0,.sl 4 0 0 0,.sl 5 0 0 0]::.box [.d x1,.sl 6 0 0 k,.sl 7 0 0 z]::.arr cr 1 g::.arr [] 0 0::.arr [] 0 0::.vec (aC 8 d++aH 0) 1 0::.arr cs 1 0::(aK d++p))=match box (tidy m s)with
  |.mk s1=>if idsL s1=[0,1,2,3]then(aV 0 (.box [.d y1,.d y2]::.box [.d x0,.sl 4 0 0 0,.sl 5 0 0 0]::.box [.d x1,.sl 6 0 0 k,.sl 7 0 0 z]::.arr cr 1 g::.arr [] 0 0::.arr [] 0 0::.vec (aC 8 d++aH 0) 1 0::.arr cs 1 0::aK d) (s1),.box [.d y1,.d y2]::.box [.d x0,.sl 4 0 0 0,.sl 5 0 0 0]::.box [.d x1,.sl 6 0 0 k,.sl 7 0 0 z]::.arr cr 1 0::.arr [] 0 0::.arr [] 0 0::.vec (aC 8 d++aH 0) 1 0::.arr cs 1 0::aK d)else gcO 1 m s (.box [.d y1,.d y2]::.box [.d x0,.sl 4 0 0 0,.sl 5 0 0 0]::.box [.d x1,.sl 6 0 0 k,.sl 7 0 0 z]::.arr cr 1 g::.arr [] 0 0::.arr [] 0 0::.vec (aC 8 d++aH 0) 1 0::.arr cs 1 0::(aK d++p))
  |.no=>([],[]):=by
 simp only[box]
 split
 ·rename_i hc
  have hb:=hc;have hids:idsL (tidy m s)=[0,1,2,3]:=by exact hb
  obtain⟨h,hh⟩:∃h:H,O.box [.d y1,.d y2]::.box [.d x0,.sl 4 0 0 0,.sl 5 0 0 0]::.box [.d x1,.sl 6 0 0 k,.sl 7 0 0 z]::.arr cr 1 g::.arr [] 0 0::.arr [] 0 0::.vec (aC 8 d++aH 0) 1 0::.arr cs 1 0::(aK d++p)=h:=⟨_,rfl⟩
  conv=>lhs;rw[hh]
  have g0:h[0]? =some (.box [.d y1,.d y2]):=by rw[<-hh];rfl
  have g1:h[1]? =some (.box [.d x0,.sl 4 0 0 0,.sl 5 0 0 0]):=by rw[<-hh];rfl
  have g2:h[2]? =some (.box [.d x1,.sl 6 0 0 k,.sl 7 0 0 z]):=by rw[<-hh];rfl
  have g3:h[3]? =some (.arr cr 1 g):=by rw[<-hh];rfl
  have g4:h[4]? =some (.arr [] 0 0):=by rw[<-hh];rfl
  have g5:h[5]? =some (.arr [] 0 0):=by rw[<-hh];rfl
  have g6:h[6]? =some (.vec (aC 8 d++aH 0) 1 0):=by rw[<-hh];rfl
  have g7:h[7]? =some (.arr cs 1 0):=by rw[<-hh];rfl
  have hD:h.drop 8=aK d++p:=by rw[<-hh];rfl
  have gr:=iL 8 hD;have k0:kids h (0)=[]:=by simp[kids,g0,idsL,idsA]
  have k1:kids h (1)=[4,5]:=by simp[kids,g1,idsL,idsA]
  have k2:kids h (2)=[6,7]:=by simp[kids,g2,idsL,idsA]
  have k3:kids h (3)=[]:=bQ g3;have k4:kids h (4)=[]:=bQ g4;have k5:kids h (5)=[]:=bQ g5;have k6:kids h (6)=List.range' 8 d.length:=by simp[kids,g6,bN,bZ,c8]
  have leaf:=jJ gr;have hr:aF aI h [0,1,2,3] []=[0,1,2,3,4,5,6]++([7]++(List.range' 8 d.length++[])):=fZ (by simp[k0,k1,k2,k3,k4,k5,k6]) (by intro q hq;simp only[Ae,Ac]at hq;have:q=0\/q=1\/q=2\/q=3\/q=4\/q=5\/q=6:=om;rcases this with rfl|rfl|rfl|rfl|rfl|rfl|rfl<;>simp[k0,k1,k2,k3,k4,k5]) leaf (by intro i hi;simp at hi;subst hi;exact⟨_,_,_,by assumption⟩) (by intro i hi;simp at hi;rcases hi with rfl|rfl|rfl|rfl|rfl|rfl|rfl<;>exact⟨_,by assumption,by simp⟩) (by simp<;>omega) (by intro i hi;simp at hi;omega) (by simp only[aI,Ae,Ac];omega);generalize hord:[0,1,2,3,4,5,6]++([7]++(List.range' 8 d.length++[]))=ord at hr;have hA:ord=([0,1,2,3,4,5,6]++[7])++(List.range' 8 d.length++[]):=by rw[<-hord,Ao]
  have pk:∀i j,ord[j]? =some i->aJ ord i=some j:=fun i j h1=>dF (by rw[<-hr];exact bW aI h _ [] smp) h1;have p0:=pk (0) 0 (by rw[<-hord];rfl);have p1:=pk (1) 1 (by rw[<-hord];rfl);have p2:=pk (2) 2 (by rw[<-hord];rfl);have p3:=pk (3) 3 (by rw[<-hord];rfl);have p4:=pk (4) 4 (by rw[<-hord];rfl);have p5:=pk (5) 5 (by rw[<-hord];rfl);have p6:=pk (6) 6 (by rw[<-hord];rfl);have p7:=pk (7) 7 (by rw[<-hord];rfl);have pr:=jB (C:=8) pk hA rfl;obtain⟨K,hK⟩:∃K:H,O.box [.d y1,.d y2]::.box [.d x0,.sl 4 0 0 0,.sl 5 0 0 0]::.box [.d x1,.sl 6 0 0 k,.sl 7 0 0 z]::.arr cr 1 g::.arr [] 0 0::.arr [] 0 0::.vec (aC 8 d++aH 0) 1 0::.arr cs 1 0::aK d=K:=⟨_,rfl⟩
  have hni:∀f,aG f (aH 0)=aH 0:=fun _=>rfl
  have hpk:pack h ord=K:=by
   have hrf:aG (aJ ord) (aC 8 d)=aC 8 d:=eL (c:=0) pr;rw[lI hA gr,<-hK];simp only[Ax,Aq,Aj,As,Aa,g0,g1,g2,g3,g4,g5,g6,g7,Bg,mapO,aG,mapA,cR,hrf,hni,p4,p5,p6,p7,Ai]
  have hKD:K.drop 8=aK d++[]:=by rw[<-hK];exact(Ai _).symm
  have hgr:=oK hKD
  have hcm:cJ 0 K=.box [.d y1,.d y2]::.box [.d x0,.sl 4 0 0 0,.sl 5 0 0 0]::.box [.d x1,.sl 6 0 0 k,.sl 7 0 0 z]::.arr cr 1 0::.arr [] 0 0::.arr [] 0 0::.vec (aC 8 d++aH 0) 1 0::.arr cs 1 0::aK d:=by
   have hrf:aV 0 K (aC 8 d)=aC 8 d:=fL hgr;have hnc:∀h:H,aV 0 h (aH 0)=aH 0:=fun _=>rfl;have q3:bC K 3=some g:=by rw[<-hK];rfl
   have q4:bC K 4=some 0:=by rw[<-hK];rfl
   have q5:bC K 5=some 0:=by rw[<-hK];rfl
   have q6:bC K 6=some 0:=by rw[<-hK];rfl
   have q7:bC K 7=some 0:=by rw[<-hK];rfl
   unfold cJ;rw[fI]
   conv=>lhs;arg 2;rw[<-hK]
   simp only[Aj,b5,aV,bP,iG,eI,hrf,hnc,f9,q4,q5,q6,q7,Cb,if_false,if_true]
  subst hK;rw[aAi hh hids,U3 (ord:=ord) (by rw[hids];exact hr),hpk,hcm]
  have hmp:aG (aJ ord) (tidy m s)=tidy m s:=by
   apply fF;rw[hids];intro i hi;simp only[Au,Bv,or_false]at hi
   rcases hi with rfl|rfl|rfl|rfl
   ·exact p0
   ·exact p1
   ·exact p2
   ·exact p3
  rw[hmp]
 ·rfl
theorem aUA{m:List Bool}{s:List A}{y1 y2 x0 x1:D}{k z g:Nat}{cr cs:List D}{d:List (List Int)}(hl:d.length<=4294967296):gc 1 m s (.box [.d y1,.d y2]::.box [.d x0,.sl 4 0 0 0,.sl 5 0 0 0]::.box [.d x1,.sl 6 0 0 k,.sl 7 0 0 z]::.arr cr 1 g::.arr [] 0 0::.arr [] 0 0::.vec (aC 8 d++aH 0) 1 0::.arr cs 1 0::aK d)=match box (tidy m s)with
  |.mk s1=>if idsL s1=[0,1,2,3]then(aV 0 (.box [.d y1,.d y2]::.box [.d x0,.sl 4 0 0 0,.sl 5 0 0 0]::.box [.d x1,.sl 6 0 0 k,.sl 7 0 0 z]::.arr cr 1 g::.arr [] 0 0::.arr [] 0 0::.vec (aC 8 d++aH 0) 1 0::.arr cs 1 0::aK d) (s1),.box [.d y1,.d y2]::.box [.d x0,.sl 4 0 0 0,.sl 5 0 0 0]::.box [.d x1,.sl 6 0 0 k,.sl 7 0 0 z]::.arr cr 1 0::.arr [] 0 0::.arr [] 0 0::.vec (aC 8 d++aH 0) 1 0::.arr cs 1 0::aK d)else gcO 1 m s (.box [.d y1,.d y2]::.box [.d x0,.sl 4 0 0 0,.sl 5 0 0 0]::.box [.d x1,.sl 6 0 0 k,.sl 7 0 0 z]::.arr cr 1 g::.arr [] 0 0::.arr [] 0 0::.vec (aC 8 d++aH 0) 1 0::.arr cs 1 0::aK d)
  |.no=>([],[]):=by
 simp only[box]
 split
 ·rename_i hc
  have hb:=hc;have hids:idsL (tidy m s)=[0,1,2,3]:=by exact hb
  obtain⟨h,hh⟩:∃h:H,O.box [.d y1,.d y2]::.box [.d x0,.sl 4 0 0 0,.sl 5 0 0 0]::.box [.d x1,.sl 6 0 0 k,.sl 7 0 0 z]::.arr cr 1 g::.arr [] 0 0::.arr [] 0 0::.vec (aC 8 d++aH 0) 1 0::.arr cs 1 0::aK d=h:=⟨_,rfl⟩
  conv=>lhs;rw[hh]
  have g0:h[0]? =some (.box [.d y1,.d y2]):=by rw[<-hh];rfl
  have g1:h[1]? =some (.box [.d x0,.sl 4 0 0 0,.sl 5 0 0 0]):=by rw[<-hh];rfl
  have g2:h[2]? =some (.box [.d x1,.sl 6 0 0 k,.sl 7 0 0 z]):=by rw[<-hh];rfl
  have g3:h[3]? =some (.arr cr 1 g):=by rw[<-hh];rfl
  have g4:h[4]? =some (.arr [] 0 0):=by rw[<-hh];rfl
  have g5:h[5]? =some (.arr [] 0 0):=by rw[<-hh];rfl
  have g6:h[6]? =some (.vec (aC 8 d++aH 0) 1 0):=by rw[<-hh];rfl
  have g7:h[7]? =some (.arr cs 1 0):=by rw[<-hh];rfl
  have hD:h.drop 8=aK d++[]:=by rw[<-hh];exact(Ai _).symm
  have gr:=iL 8 hD;have k0:kids h (0)=[]:=by simp[kids,g0,idsL,idsA]
  have k1:kids h (1)=[4,5]:=by simp[kids,g1,idsL,idsA]
  have k2:kids h (2)=[6,7]:=by simp[kids,g2,idsL,idsA]
  have k3:kids h (3)=[]:=bQ g3;have k4:kids h (4)=[]:=bQ g4;have k5:kids h (5)=[]:=bQ g5;have k6:kids h (6)=List.range' 8 d.length:=by simp[kids,g6,bN,bZ,c8]
  have leaf:=jJ gr;have hr:aF aI h [0,1,2,3] []=[0,1,2,3,4,5,6]++([7]++(List.range' 8 d.length++[])):=fZ (by simp[k0,k1,k2,k3,k4,k5,k6]) (by intro q hq;simp only[Ae,Ac]at hq;have:q=0\/q=1\/q=2\/q=3\/q=4\/q=5\/q=6:=om;rcases this with rfl|rfl|rfl|rfl|rfl|rfl|rfl<;>simp[k0,k1,k2,k3,k4,k5]) leaf (by intro i hi;simp at hi;subst hi;exact⟨_,_,_,by assumption⟩) (by intro i hi;simp at hi;rcases hi with rfl|rfl|rfl|rfl|rfl|rfl|rfl<;>exact⟨_,by assumption,by simp⟩) (by simp<;>omega) (by intro i hi;simp at hi;omega) (by simp only[aI,Ae,Ac];omega);generalize hord:[0,1,2,3,4,5,6]++([7]++(List.range' 8 d.length++[]))=ord at hr;have hA:ord=([0,1,2,3,4,5,6]++[7])++(List.range' 8 d.length++[]):=by rw[<-hord,Ao]
  have pk:∀i j,ord[j]? =some i->aJ ord i=some j:=fun i j h1=>dF (by rw[<-hr];exact bW aI h _ [] smp) h1;have p0:=pk (0) 0 (by rw[<-hord];rfl);have p1:=pk (1) 1 (by rw[<-hord];rfl);have p2:=pk (2) 2 (by rw[<-hord];rfl);have p3:=pk (3) 3 (by rw[<-hord];rfl);have p4:=pk (4) 4 (by rw[<-hord];rfl);have p5:=pk (5) 5 (by rw[<-hord];rfl);have p6:=pk (6) 6 (by rw[<-hord];rfl);have p7:=pk (7) 7 (by rw[<-hord];rfl);have pr:=jB (C:=8) pk hA rfl;obtain⟨K,hK⟩:∃K:H,O.box [.d y1,.d y2]::.box [.d x0,.sl 4 0 0 0,.sl 5 0 0 0]::.box [.d x1,.sl 6 0 0 k,.sl 7 0 0 z]::.arr cr 1 g::.arr [] 0 0::.arr [] 0 0::.vec (aC 8 d++aH 0) 1 0::.arr cs 1 0::aK d=K:=⟨_,rfl⟩
  have hni:∀f,aG f (aH 0)=aH 0:=fun _=>rfl
  have hpk:pack h ord=K:=by
   have hrf:aG (aJ ord) (aC 8 d)=aC 8 d:=eL (c:=0) pr;rw[lI hA gr,<-hK];simp only[Ax,Aq,Aj,As,Aa,g0,g1,g2,g3,g4,g5,g6,g7,Bg,mapO,aG,mapA,cR,hrf,hni,p4,p5,p6,p7,Ai]
  have hKD:K.drop 8=aK d++[]:=by rw[<-hK];exact(Ai _).symm
  have hgr:=oK hKD
  have hcm:cJ 0 K=.box [.d y1,.d y2]::.box [.d x0,.sl 4 0 0 0,.sl 5 0 0 0]::.box [.d x1,.sl 6 0 0 k,.sl 7 0 0 z]::.arr cr 1 0::.arr [] 0 0::.arr [] 0 0::.vec (aC 8 d++aH 0) 1 0::.arr cs 1 0::aK d:=by
   have hrf:aV 0 K (aC 8 d)=aC 8 d:=fL hgr;have hnc:∀h:H,aV 0 h (aH 0)=aH 0:=fun _=>rfl;have q3:bC K 3=some g:=by rw[<-hK];rfl
   have q4:bC K 4=some 0:=by rw[<-hK];rfl
   have q5:bC K 5=some 0:=by rw[<-hK];rfl
   have q6:bC K 6=some 0:=by rw[<-hK];rfl
   have q7:bC K 7=some 0:=by rw[<-hK];rfl
   unfold cJ;rw[fI]
   conv=>lhs;arg 2;rw[<-hK]
   simp only[Aj,b5,aV,bP,iG,eI,hrf,hnc,f9,q4,q5,q6,q7,Cb,if_false,if_true]
  subst hK;rw[aAi hh hids,U3 (ord:=ord) (by rw[hids];exact hr),hpk,hcm]
  have hmp:aG (aJ ord) (tidy m s)=tidy m s:=by
   apply fF;rw[hids];intro i hi;simp only[Au,Bv,or_false]at hi
   rcases hi with rfl|rfl|rfl|rfl
   ·exact p0
   ·exact p1
   ·exact p2
   ·exact p3
  rw[hmp]
 ·rfl
def OY(n:Nat)(ids:List Nat):Bool:=decide (ids=[0,1,2,n+7])
theorem aMQ{n:Nat}{ke0:Nat}(he0:ke0=n+7):OY n [0,1,2,ke0]=true:=by subst he0;simp[OY]
def jR(n i:Nat):Option Nat:=if i=0 then some 0 else if i=1 then some 1 else if i=2 then some 2 else if i=n+7 then some 3 else none
theorem X0{n:Nat}:jR n 0=some (0):=by unfold jR;repeat (first|rfl|rw[if_pos rfl]|rw[if_neg om])
theorem Y7{n:Nat}:jR n 1=some (1):=by unfold jR;repeat (first|rfl|rw[if_pos rfl]|rw[if_neg om])
theorem aAO{n:Nat}:jR n 2=some (2):=by unfold jR;repeat (first|rfl|rw[if_pos rfl]|rw[if_neg om])
theorem WV{n k:Nat}(h:k=n+7):jR n k=some (3):=by subst h;unfold jR;repeat (first|rfl|rw[if_pos rfl]|rw[if_neg om])
theorem aVD{m:List Bool}{s:List A}{y1 y2 x0 x1:D}{k z:Nat}{cs:List D}{d:List (List Int)}{p:H}(hl:d.length<=4294967296):gc 1 m s (.box [.d y1,.d y2]::.box [.d x0,.sl 3 0 0 0,.sl 4 0 0 0]::.box [.d x1,.sl 5 0 0 k,.sl 6 0 0 z]::.arr [] 0 0::.arr [] 0 0::.vec (aC 7 d++aH 0) 1 0::.arr cs 1 0::(aK d++.arr [] 1 0::p))=match box (tidy m s)with
  |.mk s1=>if OY d.length (idsL s1)=true then(aV 0 (.box [.d y1,.d y2]::.box [.d x0,.sl 4 0 0 0,.sl 5 0 0 0]::.box [.d x1,.sl 6 0 0 k,.sl 7 0 0 z]::.arr [] 1 0::.arr [] 0 0::.arr [] 0 0::.vec (aC 8 d++aH 0) 1 0::.arr cs 1 0::aK d) (aG (jR d.length) s1),.box [.d y1,.d y2]::.box [.d x0,.sl 4 0 0 0,.sl 5 0 0 0]::.box [.d x1,.sl 6 0 0 k,.sl 7 0 0 z]::.arr [] 1 0::.arr [] 0 0::.arr [] 0 0::.vec (aC 8 d++aH 0) 1 0::.arr cs 1 0::aK d)else gcO 1 m s (.box [.d y1,.d y2]::.box [.d x0,.sl 3 0 0 0,.sl 4 0 0 0]::.box [.d x1,.sl 5 0 0 k,.sl 6 0 0 z]::.arr [] 0 0::.arr [] 0 0::.vec (aC 7 d++aH 0) 1 0::.arr cs 1 0::(aK d++.arr [] 1 0::p))
  |.no=>([],[]):=by
 simp only[box]
 split
 ·rename_i hc
  have hb:=hc;have hids:idsL (tidy m s)=[0,1,2,d.length+7]:=by simpa [OY]using hb
  obtain⟨h,hh⟩:∃h:H,O.box [.d y1,.d y2]::.box [.d x0,.sl 3 0 0 0,.sl 4 0 0 0]::.box [.d x1,.sl 5 0 0 k,.sl 6 0 0 z]::.arr [] 0 0::.arr [] 0 0::.vec (aC 7 d++aH 0) 1 0::.arr cs 1 0::(aK d++.arr [] 1 0::p)=h:=⟨_,rfl⟩
  conv=>lhs;rw[hh]
  have g0:h[0]? =some (.box [.d y1,.d y2]):=by rw[<-hh];rfl
  have g1:h[1]? =some (.box [.d x0,.sl 3 0 0 0,.sl 4 0 0 0]):=by rw[<-hh];rfl
  have g2:h[2]? =some (.box [.d x1,.sl 5 0 0 k,.sl 6 0 0 z]):=by rw[<-hh];rfl
  have g3:h[3]? =some (.arr [] 0 0):=by rw[<-hh];rfl
  have g4:h[4]? =some (.arr [] 0 0):=by rw[<-hh];rfl
  have g5:h[5]? =some (.vec (aC 7 d++aH 0) 1 0):=by rw[<-hh];rfl
  have g6:h[6]? =some (.arr cs 1 0):=by rw[<-hh];rfl
  have hD:h.drop 7=aK d++(.arr [] 1 0::p):=by rw[<-hh];rfl
  have gr:=iL 7 hD;have ge0:h[d.length+7]? =some (.arr [] 1 0):=zF 7 0 hD rfl om;have k0:kids h (0)=[]:=by simp[kids,g0,idsL,idsA]
  have k1:kids h (1)=[3,4]:=by simp[kids,g1,idsL,idsA]
  have k2:kids h (2)=[5,6]:=by simp[kids,g2,idsL,idsA]
  have ke0:kids h (d.length+7)=[]:=bQ ge0;have k3:kids h (3)=[]:=bQ g3;have k4:kids h (4)=[]:=bQ g4;have k5:kids h (5)=List.range' 7 d.length:=by simp[kids,g5,bN,bZ,c8]
  have leaf:=jJ gr;have hr:aF aI h [0,1,2,d.length+7] []=[0,1,2,d.length+7,3,4,5]++([6]++(List.range' 7 d.length++[])):=fZ (by simp[k0,k1,k2,ke0,k3,k4,k5]) (by intro q hq;simp only[Ae,Ac]at hq;have:q=0\/q=1\/q=2\/q=3\/q=4\/q=5\/q=6:=om;rcases this with rfl|rfl|rfl|rfl|rfl|rfl|rfl<;>simp[k0,k1,k2,ke0,k3,k4]) leaf (by intro i hi;simp at hi;subst hi;exact⟨_,_,_,by assumption⟩) (by intro i hi;simp at hi;rcases hi with rfl|rfl|rfl|rfl|rfl|rfl|rfl<;>exact⟨_,by assumption,by simp⟩) (by simp<;>omega) (by intro i hi;simp at hi;omega) (by simp only[aI,Ae,Ac];omega);generalize hord:[0,1,2,d.length+7,3,4,5]++([6]++(List.range' 7 d.length++[]))=ord at hr;have hA:ord=([0,1,2,d.length+7,3,4,5]++[6])++(List.range' 7 d.length++[]):=by rw[<-hord,Ao]
  have pk:∀i j,ord[j]? =some i->aJ ord i=some j:=fun i j h1=>dF (by rw[<-hr];exact bW aI h _ [] smp) h1;have p0:=pk (0) 0 (by rw[<-hord];rfl);have p1:=pk (1) 1 (by rw[<-hord];rfl);have p2:=pk (2) 2 (by rw[<-hord];rfl);have pe0:=pk (d.length+7) 3 (by rw[<-hord];rfl);have p3:=pk (3) 4 (by rw[<-hord];rfl);have p4:=pk (4) 5 (by rw[<-hord];rfl);have p5:=pk (5) 6 (by rw[<-hord];rfl);have p6:=pk (6) 7 (by rw[<-hord];rfl);have pr:=jB (C:=8) pk hA rfl;obtain⟨K,hK⟩:∃K:H,O.box [.d y1,.d y2]::.box [.d x0,.sl 4 0 0 0,.sl 5 0 0 0]::.box [.d x1,.sl 6 0 0 k,.sl 7 0 0 z]::.arr [] 1 0::.arr [] 0 0::.arr [] 0 0::.vec (aC 8 d++aH 0) 1 0::.arr cs 1 0::aK d=K:=⟨_,rfl⟩
  have hni:∀f,aG f (aH 0)=aH 0:=fun _=>rfl
  have hpk:pack h ord=K:=by
   have hrf:aG (aJ ord) (aC 7 d)=aC 8 d:=eL (c:=0) pr;rw[lI hA gr,<-hK];simp only[Ax,Aq,Aj,As,Aa,g0,g1,g2,ge0,g3,g4,g5,g6,Bg,mapO,aG,mapA,cR,hrf,hni,p3,p4,p5,p6,Ai]
  have hKD:K.drop 8=aK d++[]:=by rw[<-hK];exact(Ai _).symm
  have hgr:=oK hKD
  have hcm:cJ 0 K=.box [.d y1,.d y2]::.box [.d x0,.sl 4 0 0 0,.sl 5 0 0 0]::.box [.d x1,.sl 6 0 0 k,.sl 7 0 0 z]::.arr [] 1 0::.arr [] 0 0::.arr [] 0 0::.vec (aC 8 d++aH 0) 1 0::.arr cs 1 0::aK d:=by
   have hrf:aV 0 K (aC 8 d)=aC 8 d:=fL hgr;have hnc:∀h:H,aV 0 h (aH 0)=aH 0:=fun _=>rfl;have q3:bC K 3=some 0:=by rw[<-hK];rfl
   have q4:bC K 4=some 0:=by rw[<-hK];rfl
   have q5:bC K 5=some 0:=by rw[<-hK];rfl
   have q6:bC K 6=some 0:=by rw[<-hK];rfl
   have q7:bC K 7=some 0:=by rw[<-hK];rfl
   unfold cJ;rw[fI]
   conv=>lhs;arg 2;rw[<-hK]
   simp only[Aj,b5,aV,bP,iG,eI,hrf,hnc,f9,q4,q5,q6,q7,Cb,if_false,if_true]
  subst hK;rw[aAi hh hids,U3 (ord:=ord) (by rw[hids];exact hr),hpk,hcm]
  have hmp:aG (aJ ord) (tidy m s)=aG (jR d.length) (tidy m s):=by
   apply kZ;rw[hids];intro i hi;simp only[Au,Bv,or_false]at hi
   rcases hi with rfl|rfl|rfl|rfl
   ·rw[p0,X0]
   ·rw[p1,Y7]
   ·rw[p2,aAO]
   ·rw[pe0,WV rfl]
  rw[hmp]
 ·rfl
def zI(n:Nat):List Nat:=[0,5,6]++(List.range' 7 n++[])
def I5(n i:Nat):Option Nat:=if i=0 then some 0 else if i=5 then some 1 else if i=6 then some 2 else none
theorem aJI{n:Nat}:I5 n 5=some (1):=by unfold I5;repeat (first|rfl|rw[if_pos rfl]|rw[if_neg om])
theorem aJq{n:Nat}:I5 n 6=some (2):=by unfold I5;repeat (first|rfl|rw[if_pos rfl]|rw[if_neg om])
theorem aRu{y1 y2:D}{x0 x1 o3 o4:O}{cs:List D}{d:List (List Int)}(hl:d.length<=4294967296){ids:List Nat}:dD 1 (.box [.d y1,.d y2]::x0::x1::o3::o4::.vec (aC 7 d++aH 0) 1 0::.arr cs 1 0::aK d) ids=if ids=[5,6]then zI d.length else aU3 1 (.box [.d y1,.d y2]::x0::x1::o3::o4::.vec (aC 7 d++aH 0) 1 0::.arr cs 1 0::aK d) ids:=by
 split
 ·rename_i hc
  subst hc;rw[aLx];obtain⟨h,hh⟩:∃h:H,O.box [.d y1,.d y2]::x0::x1::o3::o4::.vec (aC 7 d++aH 0) 1 0::.arr cs 1 0::aK d=h:=⟨_,rfl⟩
  conv=>lhs;rw[hh]
  have g0:h[0]? =some (.box [.d y1,.d y2]):=by rw[<-hh];rfl
  have g5:h[5]? =some (.vec (aC 7 d++aH 0) 1 0):=by rw[<-hh];rfl
  have g6:h[6]? =some (.arr cs 1 0):=by rw[<-hh];rfl
  have hD:h.drop 7=aK d++[]:=by rw[<-hh];exact(Ai _).symm
  have gr:=iL 7 hD;have k0:kids h (0)=[]:=by simp[kids,g0,idsL,idsA]
  have k5:kids h (5)=List.range' 7 d.length:=by simp[kids,g5,bN,bZ,c8]
  have leaf:=jJ gr;have hr:aF (aI+1) h [0,5,6] []=[0,5]++([6]++(List.range' 7 d.length++[])):=fZ (by simp[k0,k5]) (by intro q hq;simp only[Ae,Ac]at hq;have:q=0\/q=1:=om;rcases this with rfl|rfl<;>simp[k0]) leaf (by intro i hi;simp at hi;subst hi;exact⟨_,_,_,by assumption⟩) (by intro i hi;simp at hi;rcases hi with rfl|rfl<;>exact⟨_,by assumption,by simp⟩) (by simp<;>omega) (by intro i hi;simp at hi;omega) (by simp only[aI,Ae,Ac];omega);generalize hord:[0,5]++([6]++(List.range' 7 d.length++[]))=ord at hr;rw[hr,<-hord];rfl
 ·rfl
theorem aSk{y1 y2:D}{x0 x1 o3 o4:O}{cs:List D}{d:List (List Int)}(hl:d.length<=4294967296){s:List A}:trim 1 (.box [.d y1,.d y2]::x0::x1::o3::o4::.vec (aC 7 d++aH 0) 1 0::.arr cs 1 0::aK d) (zI d.length) s=if idsL s=[5,6]/\z0As s=true then(aG (I5 d.length) s,.box [.d y1,.d y2]::.vec (aC 3 d++aH 0) 1 0::.arr cs 1 0::aK d)else aVc 1 (.box [.d y1,.d y2]::x0::x1::o3::o4::.vec (aC 7 d++aH 0) 1 0::.arr cs 1 0::aK d) (zI d.length) s:=by
 split
 ·rename_i hc
  obtain⟨hids,hz⟩:=hc;rw[show zI d.length=0::(zI d.length).tail from rfl,aH5,show(0::(zI d.length).tail)=zI d.length from rfl];obtain⟨h,hh⟩:∃h:H,O.box [.d y1,.d y2]::x0::x1::o3::o4::.vec (aC 7 d++aH 0) 1 0::.arr cs 1 0::aK d=h:=⟨_,rfl⟩
  conv=>lhs;rw[hh]
  have g0:h[0]? =some (.box [.d y1,.d y2]):=by rw[<-hh];rfl
  have g5:h[5]? =some (.vec (aC 7 d++aH 0) 1 0):=by rw[<-hh];rfl
  have g6:h[6]? =some (.arr cs 1 0):=by rw[<-hh];rfl
  have hD:h.drop 7=aK d++[]:=by rw[<-hh];exact(Ai _).symm
  have gr:=iL 7 hD;have k0:kids h (0)=[]:=by simp[kids,g0,idsL,idsA]
  have k5:kids h (5)=List.range' 7 d.length:=by simp[kids,g5,bN,bZ,c8]
  have leaf:=jJ gr;have hr:aF aI h [0,5,6] []=[0,5]++([6]++(List.range' 7 d.length++[])):=fZ (by simp[k0,k5]) (by intro q hq;simp only[Ae,Ac]at hq;have:q=0\/q=1:=om;rcases this with rfl|rfl<;>simp[k0]) leaf (by intro i hi;simp at hi;subst hi;exact⟨_,_,_,by assumption⟩) (by intro i hi;simp at hi;rcases hi with rfl|rfl<;>exact⟨_,by assumption,by simp⟩) (by simp<;>omega) (by intro i hi;simp at hi;omega) (by simp only[aI,Ae,Ac];omega);generalize hord:[0,5]++([6]++(List.range' 7 d.length++[]))=ord at hr;have hA:ord=([0,5]++[6])++(List.range' 7 d.length++[]):=by rw[<-hord,Ao]
  have pk:∀i j,ord[j]? =some i->aJ ord i=some j:=fun i j h1=>dF (by rw[<-hr];exact bW aI h _ [] smp) h1;have p0:=pk (0) 0 (by rw[<-hord];rfl);have p5:=pk (5) 1 (by rw[<-hord];rfl);have p6:=pk (6) 2 (by rw[<-hord];rfl);have pr:=jB (C:=3) pk hA rfl;obtain⟨K,hK⟩:∃K:H,O.box [.d y1,.d y2]::.vec (aC 3 d++aH 0) 1 0::.arr cs 1 0::aK d=K:=⟨_,rfl⟩
  have hni:∀f,aG f (aH 0)=aH 0:=fun _=>rfl
  have hpk:pack h ord=K:=by
   have hrf:aG (aJ ord) (aC 7 d)=aC 3 d:=eL (c:=0) pr;rw[lI hA gr,<-hK];simp only[Ax,Aq,Aj,As,Aa,g0,g5,g6,Bg,mapO,aG,mapA,cR,hrf,hni,Ai]
  have hKD:K.drop 3=aK d++[]:=by rw[<-hK];exact(Ai _).symm
  have hgr:=oK hKD
  have hcm:cJ 0 K=.box [.d y1,.d y2]::.vec (aC 3 d++aH 0) 1 0::.arr cs 1 0::aK d:=by
   have hrf:aV 0 K (aC 3 d)=aC 3 d:=fL hgr;have hnc:∀h:H,aV 0 h (aH 0)=aH 0:=fun _=>rfl;have q1:bC K 1=some 0:=by rw[<-hK];rfl
   have q2:bC K 2=some 0:=by rw[<-hK];rfl
   unfold cJ;rw[fI]
   conv=>lhs;arg 2;rw[<-hK]
   simp only[Aj,b5,aV,bP,eI,hrf,hnc,f9,Cb,if_false]
  subst hK;have hoo:zI d.length=ord:=by rw[<-hord];rfl
  unfold trim;rw[hoo,hpk,hcm]
  have hz2:aV 0 (O.box [.d y1,.d y2]::.vec (aC 3 d++aH 0) 1 0::.arr cs 1 0::aK d) (aG (aJ ord) s)=aG (aJ ord) s:=by
   exact kN (LL (by simp[z0O,z0As,z0A,DO,yX,yR,MW])) _ (z7 _ hz)
  have hmp:aG (aJ ord) s=aG (I5 d.length) s:=by
   apply kZ;rw[hids];intro i hi;simp only[Au,Bv,or_false]at hi
   rcases hi with rfl|rfl
   ·rw[p5,aJI]
   ·rw[p6,aJq]
  rw[hz2,hmp]
 ·rfl
end Ev
end Go.Proofs.YtppffbehejpglaaGreatDoor
